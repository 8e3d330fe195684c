import PyProof.Rows.All
import Wide.All
import OpenK.AllK
import Wide.FinOn
import HandS.ForMost
import HandS.IsInst
import HandS.Lambda
import HandS.Style
import HandS.Zip
import KE.KDictDisplayH
import HandS.Defaults
import KE.KRevSl
import HandS.Conv
import HandS.NoneIn
import HandS.DictComp
import KE.GoesEnum
import KE.GoesMore
import KE.SortData
import HandS.Flow
import KE.DataMinMax
import PyProof.Claim2Refuses
import HandS.WideBits
import HandS.Text
import HandS.OwnEq
import KE.SortKeyHeap
import HandS.SortKw
import HandS.SetKeys
import HandS.EndTab
import HandS.FStr
import HandS.ClsMeth
import HandS.MakeKwOnly
import HandS.GenList
import HandS.GenYield
import HandS.HeadHook3
import PySem.Challenge.RW_sameforever_k00_rows_in_their_least_writ
set_option Elab.async false
set_option linter.all false
set_option maxRecDepth 100000
/-! DLay: abstract states of plain data over HandS. A datum D stands for a value and all that it reaches; the permanent heap N holds what data lean on; M tells the objects that still change. -/
def Hid (P : Prop) : Prop := P
theorem hid_eq {P : Prop} (h : P) : Hid P = True := eq_true h
theorem hid_of {P : Prop} (h : Hid P) : P := h
namespace DL
open PySem PySem.Spec PyProof.Rows L2

/-- plain data; ref: an object that still changes -/
inductive D where
  | non | bl (b : Bool) | int (i : Int) | str (x : Str) | ty (n : String)
  | list (xs : List D) | rol (xs : List D) | tup (xs : List D) | rot (xs : List D)
  | obj (C : Addr) (fs : List (Str × D))
  | dK (kvs : List (Key × D)) | dT (kvs : List (List Key × D))
  | ref (a : Addr)
/-- what an object that still changes holds -/
inductive MC where
  | lst (ds : List D) | dK (kvs : List (Key × D)) | dT (kvs : List (List Key × D)) | ins (C : Addr) (fs : List (Str × D)) | tab (q : Str)
abbrev Mp := Addr → Option MC
def mupd (M : Mp) (a : Addr) (c : MC) : Mp := fun b => if b = a then some c else M b
def mdel (M : Mp) (a : Addr) : Mp := fun b => if b = a then none else M b
theorem mupd_same {M : Mp} {a : Addr} {c : MC} : mupd M a c a = some c := by unfold mupd; rw [if_pos rfl]
theorem mupd_ne {M : Mp} {a b : Addr} {c : MC} (h : b ≠ a) : mupd M a c b = M b := by unfold mupd; rw [if_neg h]
theorem mupd_mupd {M : Mp} {a : Addr} {c e : MC} : mupd (mupd M a c) a e = mupd M a e := by funext b; unfold mupd; split <;> rfl
theorem mne {M : Mp} {a b : Addr} {c : MC} (h : M a = some c) (h' : M b = none) : a ≠ b := by intro e; subst e; rw [h] at h'; cases h'

mutual
inductive RelD (K : PySem.W.Frag) (N : Hp) : V → D → Prop
  | non : RelD K N .non .non
  | bl (b : Bool) : RelD K N (.bl b) (.bl b)
  | int (i : Int) : RelD K N (.int i) (.int i)
  | str (x : Str) : RelD K N (.str x) (.str x)
  | ty (n : String) : RelD K N (.ty n) (.ty n)
  | list {a : Addr} {xs : List V} {ds : List D} : N a = some (.lst xs) → RelL K N xs ds → RelD K N (.ref a) (.list ds)
  | rol {a : Addr} {xs : List V} {ds : List D} : SqL K N a xs → RelL K N xs ds → RelD K N (.ref a) (.rol ds)
  | tup {a : Addr} {xs : List V} {ds : List D} : N a = some (.tup xs) → RelL K N xs ds → RelD K N (.ref a) (.tup ds)
  | rot {a : Addr} {xs : List V} {ds : List D} : SqT K N a xs → RelL K N xs ds → RelD K N (.ref a) (.rot ds)
  | obj {a dx C : Addr} {fs : List (Str × V)} {gs : List (Str × D)} : N a = some (.ins C dx fs) → RelF K N fs gs → RelD K N (.ref a) (.obj C gs)
  | dK {a : Addr} {ob : Obj} {kvs : List (Key × V)} {gs : List (Key × D)} : N a = some (.frz ob (.dK kvs)) → RelF K N kvs gs → RelD K N (.ref a) (.dK gs)
  | dT {a : Addr} {ob : Obj} {kvs : List (List Key × V)} {gs : List (List Key × D)} : N a = some (.frz ob (.dT kvs)) → RelF K N kvs gs → RelD K N (.ref a) (.dT gs)
  | ref (a : Addr) : RelD K N (.ref a) (.ref a)
inductive RelL (K : PySem.W.Frag) (N : Hp) : List V → List D → Prop
  | nil : RelL K N [] []
  | cons {v : V} {vs : List V} {d : D} {ds : List D} : RelD K N v d → RelL K N vs ds → RelL K N (v :: vs) (d :: ds)
inductive RelF (K : PySem.W.Frag) (N : Hp) : {k : Type} → List (k × V) → List (k × D) → Prop
  | nil {k : Type} : RelF K N (k := k) [] []
  | cons {k : Type} {x : k} {v : V} {vs : List (k × V)} {d : D} {ds : List (k × D)} : RelD K N v d → RelF K N vs ds → RelF K N ((x, v) :: vs) ((x, d) :: ds)
end

theorem same_seqT {K : PySem.W.Frag} {H H' : Hp} {a : Addr} {xs : List V} (e : Same H H') (h : SqT K H a xs) : SqT K H' a xs := by
  rcases h with (h | ⟨o, h⟩) | h
  · exact .inl (.inl (e _ _ h))
  · exact .inl (.inr ⟨o, e _ _ h⟩)
  · exact .inr h

section
variable {K : PySem.W.Frag} {N N' : Hp}
mutual
theorem RelD.mono (s : Same N N') : ∀ {v : V} {d : D}, RelD K N v d → RelD K N' v d
  | _, _, .non => .non
  | _, _, .bl b => .bl b
  | _, _, .int i => .int i
  | _, _, .str x => .str x
  | _, _, .ty n => .ty n
  | _, _, .list h r => .list (s _ _ h) (RelL.mono s r)
  | _, _, .rol h r => .rol (s.seq h) (RelL.mono s r)
  | _, _, .tup h r => .tup (s _ _ h) (RelL.mono s r)
  | _, _, .rot h r => .rot (same_seqT s h) (RelL.mono s r)
  | _, _, .obj h r => .obj (s _ _ h) (RelF.mono s r)
  | _, _, .dK h r => .dK (s _ _ h) (RelF.mono s r)
  | _, _, .dT h r => .dT (s _ _ h) (RelF.mono s r)
  | _, _, .ref a => .ref a
theorem RelL.mono (s : Same N N') : ∀ {v : List V} {d : List D}, RelL K N v d → RelL K N' v d
  | _, _, .nil => .nil
  | _, _, .cons h r => .cons (RelD.mono s h) (RelL.mono s r)
theorem RelF.mono (s : Same N N') : ∀ {k : Type} {v : List (k × V)} {d : List (k × D)}, RelF K N v d → RelF K N' v d
  | _, _, _, .nil => .nil
  | _, _, _, .cons h r => .cons (RelD.mono s h) (RelF.mono s r)
end
theorem RelL.length : ∀ {xs : List V} {ds : List D}, RelL K N xs ds → xs.length = ds.length
  | _, _, .nil => rfl
  | _, _, .cons _ r => by simp [RelL.length r]
theorem RelL.get : ∀ {xs : List V} {ds : List D} {i : Nat} {x : V}, RelL K N xs ds → xs[i]? = some x → ∃ d, ds[i]? = some d ∧ RelD K N x d
  | _, _, i, x, .nil, e => by simp at e
  | _, _, 0, x, .cons h r, e => by simp at e; subst e; exact ⟨_, rfl, h⟩
  | _, _, i + 1, x, .cons h r, e => by
    obtain ⟨d, h1, h2⟩ := RelL.get (i := i) (x := x) r (by simpa using e)
    exact ⟨d, by simpa using h1, h2⟩
theorem RelL.getR : ∀ {xs : List V} {ds : List D} {i : Nat} {d : D}, RelL K N xs ds → ds[i]? = some d → ∃ x, xs[i]? = some x ∧ RelD K N x d
  | _, _, i, x, .nil, e => by simp at e
  | _, _, 0, x, .cons h r, e => by simp at e; subst e; exact ⟨_, rfl, h⟩
  | _, _, i + 1, x, .cons h r, e => by
    obtain ⟨d, h1, h2⟩ := RelL.getR (i := i) (d := x) r (by simpa using e)
    exact ⟨d, by simpa using h1, h2⟩
theorem RelL.append : ∀ {xs ys : List V} {ds es : List D}, RelL K N xs ds → RelL K N ys es → RelL K N (xs ++ ys) (ds ++ es)
  | _, _, _, _, .nil, s => s
  | _, _, _, _, .cons h r, s => .cons h (RelL.append r s)
theorem RelL.take : ∀ {xs : List V} {ds : List D} (n : Nat), RelL K N xs ds → RelL K N (xs.take n) (ds.take n)
  | _, _, 0, _ => .nil
  | _, _, _ + 1, .nil => .nil
  | _, _, n + 1, .cons h r => .cons h (RelL.take n r)
theorem RelL.drop : ∀ {xs : List V} {ds : List D} (n : Nat), RelL K N xs ds → RelL K N (xs.drop n) (ds.drop n)
  | _, _, 0, r => r
  | _, _, _ + 1, .nil => .nil
  | _, _, n + 1, .cons h r => RelL.drop n r
theorem RelL.set {x : V} {d : D} (h : RelD K N x d) : ∀ {xs : List V} {ds : List D} (n : Nat), RelL K N xs ds → RelL K N (xs.set n x) (ds.set n d)
  | _, _, _, .nil => .nil
  | _, _, 0, .cons _ r => .cons h r
  | _, _, n + 1, .cons q r => .cons q (RelL.set h n r)
theorem RelL.dropLast : ∀ {xs : List V} {ds : List D}, RelL K N xs ds → RelL K N xs.dropLast ds.dropLast
  | _, _, .nil => .nil
  | _, _, .cons _ .nil => .nil
  | _, _, .cons h (.cons h2 r) => .cons h (RelL.dropLast (.cons h2 r))
theorem RelL.rep : ∀ {xs : List V} {ds : List D} (k : Nat), RelL K N xs ds → RelL K N (List.replicate k xs).flatten (List.replicate k ds).flatten
  | _, _, 0, _ => .nil
  | _, _, k + 1, h => by
    rw [List.replicate_succ, List.replicate_succ, List.flatten_cons, List.flatten_cons]
    exact RelL.append h (RelL.rep k h)
theorem RelL.atI {xs : List V} {ds : List D} {i : Int} {d : D} (r : RelL K N xs ds) (h : L2.atI ds i = some d) : ∃ x, L2.atI xs i = some x ∧ RelD K N x d := by
  unfold L2.atI at *
  rw [r.length]
  cases e : ixN ds.length i with
  | none => rw [e] at h; cases h
  | some j =>
    rw [e] at h
    exact r.getR h
theorem RelL.cut {xs : List V} {ds : List D} (r : RelL K N xs ds) (lo hi : Option Int) : RelL K N (cutV xs lo hi) ((ds.drop (HT.sIx ds.length 0 lo)).take (HT.sIx ds.length ds.length hi - HT.sIx ds.length 0 lo)) := by
  unfold cutV
  rw [r.length]
  exact (r.drop _).take _
theorem RelF.length : ∀ {k : Type} {xs : List (k × V)} {ds : List (k × D)}, RelF K N xs ds → xs.length = ds.length
  | _, _, _, .nil => rfl
  | _, _, _, .cons _ r => by simp [RelF.length r]
theorem RelF.lookup : ∀ {xs : List (Str × V)} {ds : List (Str × D)} {f : Str} {d : D}, RelF K N xs ds → ds.lookup f = some d → ∃ x, xs.lookup f = some x ∧ RelD K N x d
  | _, _, f, d, .nil, e => by cases e
  | _, _, f, d, .cons (x := g) h r, e => by
    simp only [List.lookup_cons] at e ⊢
    cases q : f == g with
    | true =>
      rw [q] at e
      simp at e ⊢
      subst e
      exact h
    | false =>
      rw [q] at e
      exact RelF.lookup r e
theorem RelF.lookup_none : ∀ {xs : List (Str × V)} {ds : List (Str × D)} {f : Str}, RelF K N xs ds → ds.lookup f = none → xs.lookup f = none
  | _, _, f, .nil, e => rfl
  | _, _, f, .cons (x := g) h r, e => by
    simp only [List.lookup_cons] at e ⊢
    cases q : f == g with
    | true => rw [q] at e; cases e
    | false =>
      rw [q] at e
      exact RelF.lookup_none r e
end

/-! ### frames -/
/-- what a run leaves as it was -/
structure Fr (M : Mp) (N H : Hp) (M' : Mp) (N' H' : Hp) : Prop where
  nn : Same N N'
  keep : ∀ a o, H a = some o → M a = none → H' a = some o ∧ M' a = none
  new : ∀ a o, H a = some o → N a = none → N' a = none
  dom : ∀ a o, H a = some o → ∃ o', H' a = some o'
theorem Fr.refl {M : Mp} {N H : Hp} : Fr M N H M N H := ⟨Same.refl N, fun _ _ h m => ⟨h, m⟩, fun _ _ _ n => n, fun _ o h => ⟨o, h⟩⟩
theorem Fr.trans {M M1 M2 : Mp} {N H N1 H1 N2 H2 : Hp} (x : Fr M N H M1 N1 H1) (y : Fr M1 N1 H1 M2 N2 H2) : Fr M N H M2 N2 H2 where
  nn := x.nn.trans y.nn
  keep := fun a o h m => by
    obtain ⟨h1, m1⟩ := x.keep a o h m
    exact y.keep a o h1 m1
  new := fun a o h n => by
    obtain ⟨o1, h1⟩ := x.dom a o h
    exact y.new a o1 h1 (x.new a o h n)
  dom := fun a o h => by
    obtain ⟨o1, h1⟩ := x.dom a o h
    exact y.dom a o1 h1

section
variable {K : PySem.W.Frag}
def HasM (K : PySem.W.Frag) (N H : Hp) (a : Addr) : MC → Prop
  | .lst ds => ∃ xs, H a = some (.lst xs) ∧ RelL K N xs ds
  | .dK gs => ∃ kvs, H a = some (.dK kvs) ∧ RelF K N kvs gs
  | .dT gs => ∃ kvs, H a = some (.dT kvs) ∧ RelF K N kvs gs
  | .ins C gs => ∃ dx fs, H a = some (.ins C dx fs) ∧ RelF K N fs gs
  | .tab q => ∃ ps : Array Value, H a = some (.tbl ps) ∧ TriplesOk ps.toList ∧ ∀ (pos : Pos) (cv : Value), codeAmong pos ps.toList = some cv → ∃ c, cv = .ref c ∧ N c = some (LamX.CodeO c q)
theorem HasM.some {N H : Hp} {a : Addr} {c : MC} (h : HasM K N H a c) : ∃ o, H a = some o := by
  cases c with
  | lst ds => obtain ⟨x, h, _⟩ := h; exact ⟨_, h⟩
  | dK ds => obtain ⟨x, h, _⟩ := h; exact ⟨_, h⟩
  | dT ds => obtain ⟨x, h, _⟩ := h; exact ⟨_, h⟩
  | ins C ds => obtain ⟨x, f, h, _⟩ := h; exact ⟨_, h⟩
  | tab q => obtain ⟨x, h, _⟩ := h; exact ⟨_, h⟩
theorem HasM.mono {N H N' H' : Hp} {a : Addr} {c : MC} (h : HasM K N H a c) (s : Same N N') (e : ∀ o, H a = Option.some o → H' a = Option.some o) : HasM K N' H' a c := by
  cases c with
  | lst ds => obtain ⟨x, h, r⟩ := h; exact ⟨x, e _ h, r.mono s⟩
  | dK ds => obtain ⟨x, h, r⟩ := h; exact ⟨x, e _ h, r.mono s⟩
  | dT ds => obtain ⟨x, h, r⟩ := h; exact ⟨x, e _ h, r.mono s⟩
  | ins C ds => obtain ⟨x, f, h, r⟩ := h; exact ⟨x, f, e _ h, r.mono s⟩
  | tab q => obtain ⟨x, h, r, k⟩ := h; exact ⟨x, e _ h, r, fun p v z => let ⟨c, e1, e2⟩ := k p v z; ⟨c, e1, s _ _ e2⟩⟩
end
/-- the abstract objects are as told -/
structure CM (K : PySem.W.Frag) (M : Mp) (N H : Hp) : Prop where
  sm : Same N H
  hm : ∀ a c, M a = some c → N a = none ∧ HasM K N H a c
/-- the entry -/
structure En where
  M : Mp
  N : Hp
  H : Hp
abbrev Gm := List (Option D)
def Sl (K : PySem.W.Frag) (N : Hp) (G : Gm) (σ : L2.St) : Prop := σ.length = G.length ∧ ∀ (i : Nat) (d : D), G[i]? = some (some d) → ∃ v, σ[i]? = some (some v) ∧ RelD K N v d
structure CC (K : PySem.W.Frag) (E : En) (G : Gm) (M : Mp) (N : Hp) (σ : L2.St) (H : Hp) : Prop where
  fr : Fr E.M E.N E.H M N H
  cm : CM K M N H
  sl : Sl K N G σ
section
variable {K : PySem.W.Frag} {E : En} {G : Gm} {M M' : Mp} {N N' H H' : Hp} {σ : L2.St}
theorem Sl.mono (s : Same N N') (h : Sl K N G σ) : Sl K N' G σ := ⟨h.1, fun i d e => by
  obtain ⟨v, h1, h2⟩ := h.2 i d e
  exact ⟨v, h1, h2.mono s⟩⟩
theorem Sl.set {i : Nat} {v : V} {d : D} (h : Sl K N G σ) (r : RelD K N v d) : Sl K N (G.set i (some d)) (σ.set i (some v)) := by
  refine ⟨by simp [h.1], fun j e hj => ?_⟩
  by_cases q : i = j
  · subst q
    by_cases l : i < G.length
    · rw [List.getElem?_set_self l] at hj
      cases hj
      exact ⟨v, List.getElem?_set_self (by rw [h.1]; exact l), r⟩
    · rw [List.getElem?_eq_none (by simp; omega)] at hj
      cases hj
  · rw [List.getElem?_set_ne q] at hj ⊢
    exact h.2 j e hj
/-- a step behind the state -/
theorem CC.step (C : CC K E G M N σ H) (f : Fr M N H M' N' H') (c : CM K M' N' H') : CC K E G M' N' σ H' := ⟨C.fr.trans f, c, C.sl.mono f.nn⟩
theorem CC.slots {G' : Gm} {σ' : L2.St} (C : CC K E G M N σ H) (s : Sl K N G' σ') : CC K E G' M N σ' H := ⟨C.fr, C.cm, s⟩
/-- a new permanent object -/
theorem fr_new {p : Addr} {o : HO} (h : H p = none) (hn : N p = none) : Fr M N H M (upd N p o) (upd H p o) where
  nn := fun a u e => by rw [upd_ne (ne_of_none e hn)]; exact e
  keep := fun a u e m => ⟨by rw [upd_ne (ne_of_none e h)]; exact e, m⟩
  new := fun a u e n => by rw [upd_ne (ne_of_none e h)]; exact n
  dom := fun a u e => ⟨u, by rw [upd_ne (ne_of_none e h)]; exact e⟩
theorem CM.none (c : CM K M N H) {p : Addr} (h : H p = Option.none) : N p = Option.none ∧ M p = Option.none := by
  constructor
  · cases q : N p with
    | none => rfl
    | some o => rw [c.sm _ _ q] at h; cases h
  · cases q : M p with
    | none => rfl
    | some o =>
      obtain ⟨_, h2⟩ := c.hm _ _ q
      obtain ⟨o, h2⟩ := h2.some
      rw [h2] at h; cases h
theorem cm_new {p : Addr} {o : HO} (c : CM K M N H) (h : H p = none) : CM K M (upd N p o) (upd H p o) where
  sm := fun a u e => by
    by_cases q : a = p
    · subst q; rw [upd_same] at e ⊢; exact e
    · rw [upd_ne q] at e ⊢; exact c.sm _ _ e
  hm := fun a x e => by
    obtain ⟨h1, h2⟩ := c.hm a x e
    obtain ⟨o', h3⟩ := h2.some
    have q : a ≠ p := ne_of_none h3 h
    refine ⟨by rw [upd_ne q]; exact h1, h2.mono ?_ fun o'' e'' => by rw [upd_ne q]; exact e''⟩
    exact (fr_new (M := M) h (c.none h).1).nn
theorem CC.new {p : Addr} {o : HO} (C : CC K E G M N σ H) (h : H p = none) : CC K E G M (upd N p o) σ (upd H p o) := C.step (fr_new h (C.cm.none h).1) (cm_new C.cm h)
theorem same_new {p : Addr} {o : HO} (h : N p = none) : Same N (upd N p o) := fun a u e => by rw [upd_ne (ne_of_none e h)]; exact e
/-- a new object that may change -/
theorem fr_newM {p : Addr} {o : HO} {c : MC} (h : H p = none) : Fr M N H (mupd M p c) N (upd H p o) where
  nn := Same.refl N
  keep := fun a u e m => ⟨by rw [upd_ne (ne_of_none e h)]; exact e, by rw [mupd_ne (ne_of_none e h)]; exact m⟩
  new := fun a u e n => n
  dom := fun a u e => ⟨u, by rw [upd_ne (ne_of_none e h)]; exact e⟩
theorem cm_put {p : Addr} {o : HO} {c : MC} (cm : CM K M N H) (h : N p = none) (hc : HasM K N (upd H p o) p c) : CM K (mupd M p c) N (upd H p o) where
  sm := fun a u e => by rw [upd_ne (ne_of_none e h)]; exact cm.sm _ _ e
  hm := fun a x e => by
    by_cases q : a = p
    · subst q; rw [mupd_same] at e; cases e; exact ⟨h, hc⟩
    · rw [mupd_ne q] at e
      obtain ⟨h1, h2⟩ := cm.hm a x e
      exact ⟨h1, h2.mono (Same.refl N) fun o e => by rw [upd_ne q]; exact e⟩
theorem CC.newM {p : Addr} {o : HO} {c : MC} (C : CC K E G M N σ H) (h : H p = none) (hc : HasM K N (upd H p o) p c) : CC K E G (mupd M p c) N σ (upd H p o) := C.step (fr_newM h) (cm_put C.cm (C.cm.none h).1 hc)
/-- an object that may change is changed -/
theorem fr_mut {p : Addr} {o : HO} {c c0 : MC} (h : M p = some c0) : Fr M N H (mupd M p c) N (upd H p o) where
  nn := Same.refl N
  keep := fun a u e m => by
    have q : a ≠ p := fun z => by subst z; rw [h] at m; cases m
    exact ⟨by rw [upd_ne q]; exact e, by rw [mupd_ne q]; exact m⟩
  new := fun a u e n => n
  dom := fun a u e => by
    by_cases q : a = p
    · subst q; exact ⟨o, upd_same⟩
    · exact ⟨u, by rw [upd_ne q]; exact e⟩
theorem CC.mut {p : Addr} {o : HO} {c c0 : MC} (C : CC K E G M N σ H) (h : M p = some c0) (hc : HasM K N (upd H p o) p c) : CC K E G (mupd M p c) N σ (upd H p o) := C.step (fr_mut h) (cm_put C.cm (C.cm.hm _ _ h).1 hc)
/-- forgetting objects that may change -/
def Sub (M' M : Mp) : Prop := ∀ a c, M' a = some c → M a = some c
theorem Sub.none (s : Sub M' M) {a : Addr} (h : M a = Option.none) : M' a = Option.none := by
  cases q : M' a with
  | none => rfl
  | some c => rw [s _ _ q] at h; cases h
theorem CC.sub (C : CC K E G M N σ H) (s : Sub M' M) : CC K E G M' N σ H where
  fr := ⟨C.fr.nn, fun a o h m => by
    obtain ⟨h1, h2⟩ := C.fr.keep a o h m
    exact ⟨h1, s.none h2⟩, C.fr.new, C.fr.dom⟩
  cm := ⟨C.cm.sm, fun a c h => C.cm.hm a c (s _ _ h)⟩
  sl := C.sl
end

/-! ### readings over data -/
abbrev QD := D → Mp → Prop
abbrev aE := Gm → Mp → QD → Prop
abbrev aT := Gm → Mp → (Bool → Mp → Prop) → Prop
abbrev aA := Gm → Mp → (List D → Mp → Prop) → Prop
structure aEnds where
  m0 : Mp
  nx : Gm → Mp → Prop
  rt : QD
  bk : Gm → Mp → Prop := fun _ _ => False
  ct : Gm → Mp → Prop := fun _ _ => False
abbrev aS := aEnds → Gm → Mp → Prop
def Co (K : PySem.W.Frag) (E : En) (G : Gm) (N : Hp) (σ : L2.St) (Q : QD) (Qc : VK) : Prop :=
  ∀ d v M' N' H', Q d M' → CC K E G M' N' σ H' → Same N N' → RelD K N' v d → Qc v H'
def CoT (K : PySem.W.Frag) (E : En) (G : Gm) (N : Hp) (σ : L2.St) (Q : Bool → Mp → Prop) (Qc : Bool → Hp → Prop) : Prop :=
  ∀ b M' N' H', Q b M' → CC K E G M' N' σ H' → Same N N' → Qc b H'
def CoA (K : PySem.W.Frag) (E : En) (G : Gm) (N : Hp) (σ : L2.St) (Q : List D → Mp → Prop) (Qc : List V → Hp → Prop) : Prop :=
  ∀ ds vs M' N' H', Q ds M' → CC K E G M' N' σ H' → Same N N' → RelL K N' vs ds → Qc vs H'
structure CoS (K : PySem.W.Frag) (E : En) (N : Hp) (A : aEnds) (B : Ends) : Prop where
  nx : ∀ G' M' N' σ' H', A.nx G' M' → CC K E G' M' N' σ' H' → Same N N' → B.nx σ' H'
  rt : ∀ d v G' M' N' σ' H', A.rt d M' → CC K E G' M' N' σ' H' → Same N N' → RelD K N' v d → B.rt v H'
  bk : ∀ G' M' N' σ' H', A.bk G' M' → CC K E G' M' N' σ' H' → Same N N' → B.bk σ' H'
  ct : ∀ G' M' N' σ' H', A.ct G' M' → CC K E G' M' N' σ' H' → Same N N' → B.ct σ' H'
def SE (K : PySem.W.Frag) (te : TE) (ae : aE) : Prop := ∀ E G M N σ H, CC K E G M N σ H → ∀ Q Qc, ae G M Q → Co K E G N σ Q Qc → te σ H Qc
def ST (K : PySem.W.Frag) (tt : TT) (at' : aT) : Prop := ∀ E G M N σ H, CC K E G M N σ H → ∀ Q Qc, at' G M Q → CoT K E G N σ Q Qc → tt σ H Qc
def SA (K : PySem.W.Frag) (ta : TA) (aa : aA) : Prop := ∀ E G M N σ H, CC K E G M N σ H → ∀ Q Qc, aa G M Q → CoA K E G N σ Q Qc → ta σ H Qc
def SS (K : PySem.W.Frag) (ts : TS) (as : aS) : Prop := ∀ E G M N σ H, CC K E G M N σ H → ∀ A B, A.m0 = E.M → as A G M → CoS K E N A B → ts B σ H
structure DE (X : Cx) (e : Expr) (te : TE) (ae : aE) : Prop where
  pe : PE X e te
  se : SE X.K te ae
structure DT (X : Cx) (e : Expr) (tt : TT) (at' : aT) : Prop where
  pt : PT X e tt
  st : ST X.K tt at'
structure DW (X : Cx) (e : Expr) (tt : TT) (at' : aT) : Prop where
  pw : PW X e tt
  st : ST X.K tt at'
structure DA (X : Cx) (es : List Expr) (ta : TA) (aa : aA) : Prop where
  pa : PA X es ta
  sa : SA X.K ta aa
structure DS (X : Cx) (s : Stmt) (ts : TS) (as : aS) : Prop where
  ps : PS X s ts
  ss : SS X.K ts as
structure DSs (X : Cx) (s : List Stmt) (ts : TS) (as : aS) : Prop where
  ps : PSs X s ts
  ss : SS X.K ts as
section
variable {K : PySem.W.Frag} {E : En} {G : Gm} {N N' : Hp} {σ : L2.St}
theorem Co.from {Q : QD} {Qc : VK} (k : Co K E G N σ Q Qc) (s : Same N N') : Co K E G N' σ Q Qc := fun d v M1 N1 H1 q c s1 r => k d v M1 N1 H1 q c (s.trans s1) r
theorem CoT.from {Q : Bool → Mp → Prop} {Qc : Bool → Hp → Prop} (k : CoT K E G N σ Q Qc) (s : Same N N') : CoT K E G N' σ Q Qc := fun d M1 N1 H1 q c s1 => k d M1 N1 H1 q c (s.trans s1)
theorem CoA.from {Q : List D → Mp → Prop} {Qc : List V → Hp → Prop} (k : CoA K E G N σ Q Qc) (s : Same N N') : CoA K E G N' σ Q Qc := fun d v M1 N1 H1 q c s1 r => k d v M1 N1 H1 q c (s.trans s1) r
theorem CoS.from {A : aEnds} {B : Ends} (k : CoS K E N A B) (s : Same N N') : CoS K E N' A B :=
  ⟨fun g m n t h q c s1 => k.nx g m n t h q c (s.trans s1), fun d v g m n t h q c s1 r => k.rt d v g m n t h q c (s.trans s1) r, fun g m n t h q c s1 => k.bk g m n t h q c (s.trans s1), fun g m n t h q c s1 => k.ct g m n t h q c (s.trans s1)⟩
end
end DL

set_option Elab.async false
set_option linter.all false
set_option maxRecDepth 100000
namespace DL
open PySem PySem.Spec PyProof.Rows L2

/-! ### reading seqs -/
section
variable {K : PySem.W.Frag} {N : Hp}
/-- the items of a datum that stands still -/
def items : D → Option (List D)
  | .list xs => some xs
  | .rol xs => some xs
  | .tup xs => some xs
  | .rot xs => some xs
  | _ => none
def isL : D → Bool
  | .list _ => true
  | .rol _ => true
  | _ => false
theorem rel_int {v : V} {i : Int} (r : RelD K N v (.int i)) : v = .int i := by cases r; rfl
theorem rel_bl {v : V} {i : Bool} (r : RelD K N v (.bl i)) : v = .bl i := by cases r; rfl
theorem rel_str {v : V} {i : Str} (r : RelD K N v (.str i)) : v = .str i := by cases r; rfl
theorem rel_ref {v : V} {a : Addr} (r : RelD K N v (.ref a)) : v = .ref a := by cases r; rfl
theorem rel_tup {v : V} {ds : List D} (r : RelD K N v (.tup ds)) : ∃ a xs, v = .ref a ∧ N a = some (.tup xs) ∧ RelL K N xs ds := by
  cases r with | tup h r => exact ⟨_, _, rfl, h, r⟩
theorem rel_list {v : V} {ds : List D} (r : RelD K N v (.list ds)) : ∃ a xs, v = .ref a ∧ N a = some (.lst xs) ∧ RelL K N xs ds := by
  cases r with | list h r => exact ⟨_, _, rfl, h, r⟩
theorem rel_obj {v : V} {C : Addr} {ds : List (Str × D)} (r : RelD K N v (.obj C ds)) : ∃ a dx xs, v = .ref a ∧ N a = some (.ins C dx xs) ∧ RelF K N xs ds := by
  cases r with | obj h r => exact ⟨_, _, _, rfl, h, r⟩
/-- what stands still at a datum's address -/
theorem rel_items {v : V} {d : D} {ds : List D} (r : RelD K N v d) (h : items d = some ds) : ∃ a xs, v = .ref a ∧ RelL K N xs ds ∧ ((isL d = true ∧ SqL K N a xs) ∨ (isL d = false ∧ SqT K N a xs)) := by
  cases r <;> simp [items] at h
  case list a xs ds h1 h2 => subst h; exact ⟨_, _, rfl, h2, .inl ⟨rfl, .of h1⟩⟩
  case rol a xs ds h1 h2 => subst h; exact ⟨_, _, rfl, h2, .inl ⟨rfl, h1⟩⟩
  case tup a xs ds h1 h2 => subst h; exact ⟨_, _, rfl, h2, .inr ⟨rfl, .of h1⟩⟩
  case rot a xs ds h1 h2 => subst h; exact ⟨_, _, rfl, h2, .inr ⟨rfl, h1⟩⟩
/-- the items of a datum, or of a list that may change -/
def itemsM (M : Mp) (d : D) : Option (List D) := match d with
  | .ref a => (match M a with | some (.lst ds) => some ds | _ => none)
  | d => items d
def isLM : D → Bool
  | .ref _ => true
  | d => isL d
theorem rel_itemsM {M : Mp} {H : Hp} {v : V} {d : D} {ds : List D} (c : CM K M N H) (r : RelD K N v d) (h : itemsM M d = some ds) : ∃ a xs, v = .ref a ∧ RelL K N xs ds ∧ ((isLM d = true ∧ SqL K H a xs) ∨ (isLM d = false ∧ SqT K H a xs)) := by
  by_cases q : ∃ a, d = .ref a
  · obtain ⟨a, rfl⟩ := q
    have e := rel_ref r
    subst e
    unfold itemsM at h
    simp only at h
    split at h
    · rename_i ds' e
      cases h
      obtain ⟨_, xs, h1, h2⟩ := c.hm _ _ e
      exact ⟨a, xs, rfl, h2, .inl ⟨rfl, .of h1⟩⟩
    · cases h
  · have h' : items d = some ds := by
      unfold itemsM at h
      split at h
      · exact absurd ⟨_, rfl⟩ q
      · exact h
    have h2 : isLM d = isL d := by
      unfold isLM
      split
      · exact absurd ⟨_, rfl⟩ q
      · rfl
    obtain ⟨a, xs, e, r2, h3⟩ := rel_items r h'
    refine ⟨a, xs, e, r2, ?_⟩
    rw [h2]
    rcases h3 with ⟨h4, h5⟩ | ⟨h4, h5⟩
    · exact .inl ⟨h4, c.sm.seq h5⟩
    · exact .inr ⟨h4, same_seqT c.sm h5⟩
end

/-! ### names, constants -/
section
variable {X : Cx} {K : PySem.W.Frag}
def aVar (i : Nat) : aE := fun G M Q => match G[i]? with | some (some d) => Q d M | _ => False
def aC (d : D) : aE := fun _ M Q => Q d M
theorem se_var {i : Nat} : SE K (tVar i) (aVar i) := by
  intro E G M N σ H C Q Qc h k
  unfold aVar at h
  split at h
  · rename_i d e
    obtain ⟨v, h1, h2⟩ := C.sl.2 i d e
    exact ⟨v, h1, k d v M N H h C (Same.refl N) h2⟩
  · exact h.elim
theorem se_c {v : V} {d : D} (r : ∀ N, RelD K N v d) : SE K (tC v) (aC d) := by
  intro E G M N σ H C Q Qc h k
  exact k d v M N H h C (Same.refl N) (r N)
theorem dv (i : Nat) {x : Str} {pos : Pos} (hN : X.N[i]? = some x := by rfl) (hv : Vis X.env.scope x := by first | exact Or.inl rfl | exact Or.inr (Or.inl rfl) | exact Or.inr (Or.inr rfl)) (hd : (x == ("__debug__" : Str)) = false := by decide)
    (hcd : (x == ("__classdict__" : Str)) = false := by decide) : DE X (.Name x pos) (tVar i) (aVar i) := ⟨pe_var hN hv hd hcd, se_var⟩
theorem de_int {i j pos} : DE X (.Constant (.int i) j pos) (tC (.int i)) (aC (.int i)) := ⟨pe_int, se_c fun _ => .int _⟩
theorem de_bl {i j pos} : DE X (.Constant (.bool i) j pos) (tC (.bl i)) (aC (.bl i)) := ⟨pe_bl, se_c fun _ => .bl _⟩
theorem de_non {j pos} : DE X (.Constant .none j pos) (tC .non) (aC .non) := ⟨pe_non, se_c fun _ => .non⟩
theorem de_str {x j pos} : DE X (.Constant (.str x) j pos) (tC (.str x)) (aC (.str x)) := ⟨pe_str, se_c fun _ => .str _⟩
/-- a built-in type's name as a value -/
theorem de_ty {x : Str} {n : String} {pos : Pos} (hg : Gl X x) (hm : X.mg x = none) (hv : bootBuiltins x = some (.type n) := by decide +kernel) (hn : x ≠ "__name__" := by decide) (hd : (x == ("__debug__" : Str)) = false := by decide) : DE X (.Name x pos) (tC (.ty n)) (aC (.ty n)) :=
  ⟨pe_bltn hg hm hv rfl hn hd, se_c fun _ => .ty _⟩
/-- a module's constant -/
theorem de_glob {x : Str} {v : V} {d : D} {u : Value} {pos : Pos} (hg : Gl X x) (hm : X.mg x = some u) (r : RelV v u) (rd : ∀ N, RelD X.K N v d) (hd : (x == ("__debug__" : Str)) = false := by decide) : DE X (.Name x pos) (tC v) (aC d) :=
  ⟨pe_glob hg hm r hd, se_c rd⟩

/-! ### two operands -/
abbrev V1 := D → Mp → QD → Prop
abbrev V2 := D → D → Mp → QD → Prop
abbrev VL := List D → Mp → QD → Prop
def S1 (K : PySem.W.Frag) (r : V → Hp → VK → Prop) (f : V1) : Prop := ∀ E G M N σ H, CC K E G M N σ H → ∀ x d, RelD K N x d → ∀ Q Qc, f d M Q → Co K E G N σ Q Qc → r x H Qc
def S2 (K : PySem.W.Frag) (r : R2) (f : V2) : Prop := ∀ E G M N σ H, CC K E G M N σ H → ∀ x y d e, RelD K N x d → RelD K N y e → ∀ Q Qc, f d e M Q → Co K E G N σ Q Qc → r x y H Qc
def SL (K : PySem.W.Frag) (r : List V → Hp → VK → Prop) (f : VL) : Prop := ∀ E G M N σ H, CC K E G M N σ H → ∀ xs ds, RelL K N xs ds → ∀ Q Qc, f ds M Q → Co K E G N σ Q Qc → r xs H Qc
def aBin (f : V2) (a b : aE) : aE := fun G M Q => a G M fun d M1 => b G M1 fun e M2 => f d e M2 Q
def aUn (f : V1) (a : aE) : aE := fun G M Q => a G M fun d M1 => f d M1 Q
theorem se_op {r : R2} {f : V2} {ta tb : TE} {a b : aE} (hr : S2 K r f) (ha : SE K ta a) (hb : SE K tb b) : SE K (tOp r ta tb) (aBin f a b) := by
  intro E G M N σ H C Q Qc h k
  refine ha E G M N σ H C _ _ h fun d v M1 N1 H1 h1 C1 s1 r1 => ?_
  refine hb E G M1 N1 σ H1 C1 _ _ h1 fun e u M2 N2 H2 h2 C2 s2 r2 => ?_
  exact hr E G M2 N2 σ H2 C2 v u d e (r1.mono s2) r2 Q Qc h2 (k.from (s1.trans s2))
theorem se_un {r : V → Hp → VK → Prop} {f : V1} {ta : TE} {a : aE} (hr : S1 K r f) (ha : SE K ta a) : SE K (tUn r ta) (aUn f a) := by
  intro E G M N σ H C Q Qc h k
  refine ha E G M N σ H C _ _ h fun d v M1 N1 H1 h1 C1 s1 r1 => ?_
  exact hr E G M1 N1 σ H1 C1 v d r1 Q Qc h1 (k.from s1)
theorem S2.or {r r' : R2} {f : V2} (hr : ∀ E G M N σ H, CC K E G M N σ H → ∀ x y d e, RelD K N x d → RelD K N y e → ∀ Q Qc, f d e M Q → Co K E G N σ Q Qc → r x y H Qc ∨ r' x y H Qc) : S2 K (fun x y H Q => r x y H Q ∨ r' x y H Q) f := hr

/-! ### ends -/
section
variable {E : En} {G : Gm} {M : Mp} {N H : Hp} {σ : L2.St} {Q : QD} {Qc : VK}
theorem Co.at (k : Co K E G N σ Q Qc) (C : CC K E G M N σ H) {d : D} {v : V} (h : Q d M) (r : RelD K N v d) : Qc v H := k d v M N H h C (Same.refl N) r
theorem Co.new (k : Co K E G N σ Q Qc) (C : CC K E G M N σ H) {p : Addr} {o : HO} {d : D} (hp : H p = none) (h : Q d M) (r : ∀ N', Same N N' → N' p = some o → RelD K N' (.ref p) d) : Qc (.ref p) (upd H p o) :=
  have s := same_new (o := o) (C.cm.none hp).1
  k d _ M _ _ h (C.new hp) s (r _ s upd_same)
theorem Co.newM (k : Co K E G N σ Q Qc) (C : CC K E G M N σ H) {p : Addr} {o : HO} {c : MC} (hp : H p = none) (hc : HasM K N (upd H p o) p c) (h : Q (.ref p) (mupd M p c)) : Qc (.ref p) (upd H p o) :=
  k (.ref p) _ _ N _ h (C.newM hp hc) (Same.refl N) (.ref p)
theorem Co.mut (k : Co K E G N σ Q Qc) (C : CC K E G M N σ H) {p : Addr} {o : HO} {c c0 : MC} {d : D} {v : V} (hp : M p = some c0) (hc : HasM K N (upd H p o) p c) (h : Q d (mupd M p c)) (r : RelD K N v d) : Qc v (upd H p o) :=
  k d v _ N _ h (C.mut hp hc) (Same.refl N) r
theorem CM.lst (c : CM K M N H) {a : Addr} {ds : List D} (h : M a = some (.lst ds)) : ∃ xs, H a = some (.lst xs) ∧ RelL K N xs ds := (c.hm _ _ h).2
theorem CM.dKs (c : CM K M N H) {a : Addr} {ds : List (Key × D)} (h : M a = some (.dK ds)) : ∃ xs, H a = some (.dK xs) ∧ RelF K N xs ds := (c.hm _ _ h).2
theorem CM.dTs (c : CM K M N H) {a : Addr} {ds : List (List Key × D)} (h : M a = some (.dT ds)) : ∃ xs, H a = some (.dT xs) ∧ RelF K N xs ds := (c.hm _ _ h).2
theorem CM.inst (c : CM K M N H) {a C : Addr} {ds : List (Str × D)} (h : M a = some (.ins C ds)) : ∃ dx fs, H a = some (.ins C dx fs) ∧ RelF K N fs ds := (c.hm _ _ h).2
theorem CM.noneM (c : CM K M N H) {p : Addr} (h : H p = Option.none) : M p = Option.none := (c.none h).2
end

/-! ### arithmetic -/
theorem big_le {n : Nat} (h : n ≤ 1000000) : n ≤ sizeLine := Nat.le_trans h (by decide)
theorem big_lt {n : Nat} (h : n ≤ 1000000) : n < sizeLine := Nat.lt_of_le_of_lt h (by decide)
def fAdd : V2 := fun d e M Q => match d, e with
  | .int i, .int j => Q (.int (i + j)) M
  | .str x, .str y => x.length + y.length ≤ 1000000 ∧ Q (.str (x ++ y)) M
  | .list xs, .list ys => xs.length + ys.length ≤ 1000000 ∧ Q (.list (xs ++ ys)) M
  | .tup xs, .tup ys => xs ≠ [] ∧ xs.length + ys.length ≤ 1000000 ∧ Q (.tup (xs ++ ys)) M
  | _, _ => False
def rAddA (K : PySem.W.Frag) : R2 := fun x y H Q => (rI0 fun i j => .int (i + j)) x y H Q ∨ (fun x y H Q => (∃ i j, x = .str i ∧ y = .str j ∧ i.length + j.length ≤ sizeLine ∧ Q (.str (i ++ j)) H) ∨ (fun x y H Q => rCat x y H Q ∨ rCatT K x y H Q) x y H Q) x y H Q
theorem op_addA : OpR X (binaryOp .Add) (rAddA X.K) := OpR.or op_add (OpR.or op_add_str (OpR.or op_cat op_catT))
theorem s2_add : S2 K (rAddA K) fAdd := by
  intro E G M N σ H C x y d e rx ry Q Qc h k
  unfold fAdd at h
  split at h
  · cases rx; cases ry
    exact .inl ⟨_, _, rfl, rfl, k.at C h (.int _)⟩
  · cases rx; cases ry
    exact .inr (.inl ⟨_, _, rfl, rfl, big_le h.1, k.at C h.2 (.str _)⟩)
  · cases rx with | list h1 r1 => cases ry with | list h2 r2 =>
    refine .inr (.inr (.inl ⟨_, _, _, _, rfl, rfl, C.cm.sm _ _ h1, C.cm.sm _ _ h2, ?_, fun p hp => ?_⟩))
    · rw [r1.length, r2.length]; exact big_le h.1
    · exact k.new C hp h.2 fun N' s e => .list e ((r1.append r2).mono s)
  · cases rx with | tup h1 r1 => cases ry with | tup h2 r2 =>
    refine .inr (.inr (.inr ⟨_, _, _, _, rfl, rfl, .of (C.cm.sm _ _ h1), .of (C.cm.sm _ _ h2), ?_, ?_, ?_, ?_⟩))
    · intro e; subst e; cases r1; exact h.1 rfl
    · rw [r1.length, r2.length]; exact big_le h.2.1
    · intro e; subst e; cases r2
      refine k.at C h.2.2 ?_
      rw [List.append_nil]; exact .tup h1 r1
    · intro e p hp
      exact k.new C hp h.2.2 fun N' s e => .tup e ((r1.append r2).mono s)
  · exact h.elim
variable {a b : Expr} {ta tb : TE} {aa ab : aE} {pos : Pos}
theorem de_add (ha : DE X a ta aa) (hb : DE X b tb ab) : DE X (.BinOp a .Add b pos) (tOp (rAddA X.K) ta tb) (aBin fAdd aa ab) := ⟨pe_op op_addA ha.pe hb.pe, se_op s2_add ha.se hb.se⟩
def fI (C : Int → Int → Prop) (g : Int → Int → D) : V2 := fun d e M Q => match d, e with
  | .int i, .int j => C i j ∧ Q (g i j) M
  | _, _ => False
def fI0 (g : Int → Int → D) : V2 := fun d e M Q => match d, e with
  | .int i, .int j => Q (g i j) M
  | _, _ => False
theorem s2_I {C : Int → Int → Prop} {g : Int → Int → V} {g' : Int → Int → D} (hg : ∀ N i j, RelD K N (g i j) (g' i j)) : S2 K (rI C g) (fI C g') := by
  intro E G M N σ H C x y d e rx ry Q Qc h k
  unfold fI at h
  split at h
  · cases rx; cases ry
    exact ⟨_, _, rfl, rfl, h.1, k.at C h.2 (hg _ _ _)⟩
  · exact h.elim
theorem s2_I0 {g : Int → Int → V} {g' : Int → Int → D} (hg : ∀ N i j, RelD K N (g i j) (g' i j)) : S2 K (rI0 g) (fI0 g') := by
  intro E G M N σ H C x y d e rx ry Q Qc h k
  unfold fI0 at h
  split at h
  · cases rx; cases ry
    exact ⟨_, _, rfl, rfl, k.at C h (hg _ _ _)⟩
  · exact h.elim
abbrev fSub : V2 := fI0 fun i j => .int (i - j)
theorem de_sub (ha : DE X a ta aa) (hb : DE X b tb ab) : DE X (.BinOp a .Sub b pos) (tOp (rI0 fun i j => .int (i - j)) ta tb) (aBin fSub aa ab) := ⟨pe_op op_sub ha.pe hb.pe, se_op (s2_I0 fun _ _ _ => .int _) ha.se hb.se⟩
/-- ints below 2^64 on one side; a list many times -/
def fMul : V2 := fun d e M Q => match d, e with
  | .int i, .int j => CMul i j ∧ Q (.int (i * j)) M
  | .list xs, .int k => 0 ≤ k ∧ k ≤ 1000000 ∧ xs.length * k.toNat ≤ 1000000 ∧ Q (.list (List.replicate k.toNat xs).flatten) M
  | _, _ => False
def rMulA : R2 := fun x y H Q => (rI CMul fun i j => .int (i * j)) x y H Q ∨ rRep x y H Q
theorem s2_mul : S2 K rMulA fMul := by
  intro E G M N σ H C x y d e rx ry Q Qc h k
  unfold fMul at h
  split at h
  · cases rx; cases ry
    exact .inl ⟨_, _, rfl, rfl, h.1, k.at C h.2 (.int _)⟩
  · cases rx with | list h1 r1 => cases ry with | int z =>
    obtain ⟨z0, z1, z2, z3⟩ := h
    refine .inr ⟨_, _, _, rfl, rfl, C.cm.sm _ _ h1, by omega, by omega, ?_, fun p hp => ?_⟩
    · rw [r1.length]; exact big_le z2
    · exact k.new C hp z3 fun N' s e => .list e ((r1.rep _).mono s)
  · exact h.elim
theorem de_mul (ha : DE X a ta aa) (hb : DE X b tb ab) : DE X (.BinOp a .Mult b pos) (tOp rMulA ta tb) (aBin fMul aa ab) := ⟨pe_op (OpR.or op_mul op_rep) ha.pe hb.pe, se_op s2_mul ha.se hb.se⟩
abbrev fDiv : V2 := fI CDiv fun i j => .int (i / j)
theorem de_div (ha : DE X a ta aa) (hb : DE X b tb ab) : DE X (.BinOp a .FloorDiv b pos) (tOp (rI CDiv fun i j => .int (i / j)) ta tb) (aBin fDiv aa ab) := ⟨pe_op op_fdiv ha.pe hb.pe, se_op (s2_I fun _ _ _ => .int _) ha.se hb.se⟩
abbrev fMod : V2 := fI (fun _ j => 0 < j) fun i j => .int (i % j)
theorem de_mod (ha : DE X a ta aa) (hb : DE X b tb ab) : DE X (.BinOp a .Mod b pos) (tOp (rI (fun _ j => 0 < j) fun i j => .int (i % j)) ta tb) (aBin fMod aa ab) := ⟨pe_op op_mod ha.pe hb.pe, se_op (s2_I fun _ _ _ => .int _) ha.se hb.se⟩
abbrev fPow : V2 := fI CPow fun i j => .int (i ^ j.toNat)
theorem de_pow (ha : DE X a ta aa) (hb : DE X b tb ab) : DE X (.BinOp a .Pow b pos) (tOp (rI CPow fun i j => .int (i ^ j.toNat)) ta tb) (aBin fPow aa ab) := ⟨pe_op op_pow ha.pe hb.pe, se_op (s2_I fun _ _ _ => .int _) ha.se hb.se⟩
abbrev fShl : V2 := fI CPow fun i j => .int (i * 2 ^ j.toNat)
theorem de_shl (ha : DE X a ta aa) (hb : DE X b tb ab) : DE X (.BinOp a .LShift b pos) (tOp (rI CPow fun i j => .int (i * 2 ^ j.toNat)) ta tb) (aBin fShl aa ab) := ⟨pe_op op_shl ha.pe hb.pe, se_op (s2_I fun _ _ _ => .int _) ha.se hb.se⟩
abbrev fShr : V2 := fI (fun _ j => 0 ≤ j) fun i j => .int (i / 2 ^ j.toNat)
theorem de_shr (ha : DE X a ta aa) (hb : DE X b tb ab) : DE X (.BinOp a .RShift b pos) (tOp (rI (fun _ j => 0 ≤ j) fun i j => .int (i / 2 ^ j.toNat)) ta tb) (aBin fShr aa ab) := ⟨pe_op op_shr ha.pe hb.pe, se_op (s2_I fun _ _ _ => .int _) ha.se hb.se⟩
abbrev fAnd : V2 := fI0 fun i j => .int (Builtin.bitAnd i j)
theorem de_band (ha : DE X a ta aa) (hb : DE X b tb ab) : DE X (.BinOp a .BitAnd b pos) (tOp (rI0 fun i j => .int (Builtin.bitAnd i j)) ta tb) (aBin fAnd aa ab) := ⟨pe_op op_and ha.pe hb.pe, se_op (s2_I0 fun _ _ _ => .int _) ha.se hb.se⟩
abbrev fOr : V2 := fI0 fun i j => .int (Builtin.bitOr i j)
theorem de_bor (ha : DE X a ta aa) (hb : DE X b tb ab) : DE X (.BinOp a .BitOr b pos) (tOp (rI0 fun i j => .int (Builtin.bitOr i j)) ta tb) (aBin fOr aa ab) := ⟨pe_op op_or ha.pe hb.pe, se_op (s2_I0 fun _ _ _ => .int _) ha.se hb.se⟩
def fNeg : V1 := fun d M Q => match d with
  | .int i => Q (.int (-i)) M
  | _ => False
theorem s1_neg : S1 K (rU fun i => .int (-i)) fNeg := by
  intro E G M N σ H C x d rx Q Qc h k
  unfold fNeg at h
  split at h
  · cases rx
    exact ⟨_, rfl, k.at C h (.int _)⟩
  · exact h.elim
theorem de_neg (ha : DE X a ta aa) : DE X (.UnaryOp .USub a pos) (tUn (rU fun i => .int (-i)) ta) (aUn fNeg aa) := ⟨pe_un un_neg ha.pe, se_un s1_neg ha.se⟩

/-! ### comparisons -/
theorem de_cmp {op : CmpOp} {r : R2} {f : V2} (ho : OpR X (compareOp op) r) (hs : S2 X.K r f) (ha : DE X a ta aa) (hb : DE X b tb ab) (hm : behindInMarks op b = false) : DE X (.Compare a [op] [b] pos) (tOp r ta tb) (aBin f aa ab) :=
  ⟨pe_cmpR ho ha.pe hb.pe hm, se_op hs ha.se hb.se⟩
def aTest (a : aE) : aT := fun G M Q => a G M fun d M1 => match d with
  | .bl k => Q k M1
  | _ => False
theorem st_test {te : TE} {ae : aE} (h : SE K te ae) : ST K (tTest te) (aTest ae) := by
  intro E G M N σ H C Q Qc q k
  refine h E G M N σ H C _ _ q fun d v M1 N1 H1 h1 C1 s1 r1 => ?_
  split at h1
  · cases r1
    exact ⟨_, rfl, k _ M1 N1 H1 h1 C1 s1⟩
  · exact h1.elim
theorem dt_cmp {op : CmpOp} {r : R2} {f : V2} (ho : OpR X (compareOp op) r) (hs : S2 X.K r f) (ha : DE X a ta aa) (hb : DE X b tb ab) (hm : behindInMarks op b = false) : DT X (.Compare a [op] [b] pos) (tTest (tOp r ta tb)) (aTest (aBin f aa ab)) :=
  ⟨pt_cmpR ho ha.pe hb.pe hm, st_test (se_op hs ha.se hb.se)⟩
/-- ints; texts for < alone -/
abbrev fGt : V2 := fI0 fun i j => .bl (decide (j < i))
abbrev fGe : V2 := fI0 fun i j => .bl (decide (j ≤ i))
abbrev fLt : V2 := fI0 fun i j => .bl (decide (i < j))
abbrev fLe : V2 := fI0 fun i j => .bl (decide (i ≤ j))
theorem s2_lt : S2 K (rI0 fun i j => .bl (decide (i < j))) fLt := s2_I0 fun _ _ _ => .bl _
theorem s2_le : S2 K (rI0 fun i j => .bl (decide (i ≤ j))) fLe := s2_I0 fun _ _ _ => .bl _
theorem s2_gt : S2 K (rI0 fun i j => .bl (decide (j < i))) fGt := s2_I0 fun _ _ _ => .bl _
theorem s2_ge : S2 K (rI0 fun i j => .bl (decide (j ≤ i))) fGe := s2_I0 fun _ _ _ => .bl _
end

/-! ### data as the model's == takes it -/
mutual
def toPy : D → PyData
  | .bl b => .bool b
  | .int i => .int i
  | .str x => .str x
  | .list xs => .list (toPys xs)
  | .rol xs => .list (toPys xs)
  | .tup xs => .tuple (toPys xs)
  | .rot xs => .tuple (toPys xs)
  | _ => .none
def toPys : List D → List PyData
  | [] => []
  | x :: xs => toPy x :: toPys xs
end
mutual
/-- none, bools, ints, short texts, lists and tuples of these, at most that deep -/
def eqOk : Nat → D → Bool
  | _, .non => true
  | _, .bl _ => true
  | _, .int _ => true
  | _, .str x => PyData.strOk x
  | n + 1, .list xs => eqOks n xs
  | n + 1, .rol xs => eqOks n xs
  | n + 1, .tup xs => eqOks n xs
  | n + 1, .rot xs => eqOks n xs
  | _, _ => false
def eqOks : Nat → List D → Bool
  | _, [] => true
  | n, x :: xs => eqOk n x && eqOks n xs
end

section
variable {K : PySem.W.Frag} {N H : Hp}
mutual
theorem dp_of (sm : Same N H) : ∀ (n : Nat) (d : D) (v : V), eqOk n d = true → RelD K N v d → Dp K H v (toPy d)
  | _, .non, v, _, r => by cases r; exact .non
  | _, .bl b, v, _, r => by cases r; exact .bl b
  | _, .int b, v, _, r => by cases r; exact .int b
  | _, .str b, v, _, r => by cases r; exact .str b
  | n + 1, .list xs, v, h, r => by
    cases r with | list h1 r1 => exact .lst (.of (sm _ _ h1)) (dps_of sm n xs _ (by simpa [eqOk] using h) r1)
  | n + 1, .rol xs, v, h, r => by
    cases r with | rol h1 r1 => exact .lst (sm.seq h1) (dps_of sm n xs _ (by simpa [eqOk] using h) r1)
  | n + 1, .tup xs, v, h, r => by
    cases r with | tup h1 r1 => exact .tup (.of (sm _ _ h1)) (dps_of sm n xs _ (by simpa [eqOk] using h) r1)
  | n + 1, .rot xs, v, h, r => by
    cases r with | rot h1 r1 => exact .tup (same_seqT sm h1) (dps_of sm n xs _ (by simpa [eqOk] using h) r1)
  | 0, .list xs, v, h, r => by simp [eqOk] at h
  | 0, .rol xs, v, h, r => by simp [eqOk] at h
  | 0, .tup xs, v, h, r => by simp [eqOk] at h
  | 0, .rot xs, v, h, r => by simp [eqOk] at h
  | _, .ty _, v, h, r => by simp [eqOk] at h
  | _, .obj _ _, v, h, r => by simp [eqOk] at h
  | _, .dK _, v, h, r => by simp [eqOk] at h
  | _, .dT _, v, h, r => by simp [eqOk] at h
  | _, .ref _, v, h, r => by simp [eqOk] at h
theorem dps_of (sm : Same N H) : ∀ (n : Nat) (d : List D) (v : List V), eqOks n d = true → RelL K N v d → DpAll K H v (toPys d)
  | _, [], v, _, r => by cases r; exact .nil
  | n, x :: xs, v, h, r => by
    cases r with | cons h1 r1 =>
    have h2 : eqOk n x = true ∧ eqOks n xs = true := by simpa [eqOks] using h
    exact .cons (dp_of sm n x _ h2.1 h1) (dps_of sm n xs _ h2.2 r1)
end
mutual
theorem shaped_of : ∀ (n : Nat) (d : D), eqOk n d = true → (toPy d).canLay0 = true ∧ (toPy d).depth ≤ n
  | _, .non, _ => ⟨rfl, Nat.zero_le _⟩
  | _, .bl b, _ => ⟨rfl, Nat.zero_le _⟩
  | _, .int b, _ => ⟨rfl, Nat.zero_le _⟩
  | _, .str b, h => ⟨by simpa [toPy, PyData.canLay0, eqOk] using h, Nat.zero_le _⟩
  | n + 1, .list xs, h => by
    have := shaped_ofs n xs (by simpa [eqOk] using h)
    exact ⟨by simp [toPy, PyData.canLay0, this.1], by simp [toPy, PyData.depth, this.2]⟩
  | n + 1, .rol xs, h => by
    have := shaped_ofs n xs (by simpa [eqOk] using h)
    exact ⟨by simp [toPy, PyData.canLay0, this.1], by simp [toPy, PyData.depth, this.2]⟩
  | n + 1, .tup xs, h => by
    have := shaped_ofs n xs (by simpa [eqOk] using h)
    exact ⟨by simp [toPy, PyData.canLay0, this.1], by simp [toPy, PyData.depth, this.2]⟩
  | n + 1, .rot xs, h => by
    have := shaped_ofs n xs (by simpa [eqOk] using h)
    exact ⟨by simp [toPy, PyData.canLay0, this.1], by simp [toPy, PyData.depth, this.2]⟩
  | 0, .list xs, h => by simp [eqOk] at h
  | 0, .rol xs, h => by simp [eqOk] at h
  | 0, .tup xs, h => by simp [eqOk] at h
  | 0, .rot xs, h => by simp [eqOk] at h
  | _, .ty _, h => by simp [eqOk] at h
  | _, .obj _ _, h => by simp [eqOk] at h
  | _, .dK _, h => by simp [eqOk] at h
  | _, .dT _, h => by simp [eqOk] at h
  | _, .ref _, h => by simp [eqOk] at h
theorem shaped_ofs : ∀ (n : Nat) (d : List D), eqOks n d = true → PyData.canLayAll0 (toPys d) = true ∧ PyData.depthAll (toPys d) ≤ n
  | _, [], _ => ⟨rfl, Nat.zero_le _⟩
  | n, x :: xs, h => by
    have h2 : eqOk n x = true ∧ eqOks n xs = true := by simpa [eqOks] using h
    have h3 := shaped_of n x h2.1
    have h4 := shaped_ofs n xs h2.2
    exact ⟨by simp [toPys, PyData.canLayAll0, h3.1, h4.1], by simp [toPys, PyData.depthAll]; omega⟩
end
theorem shaped9 {d : D} (h : eqOk 9 d = true) : SeqAt.shaped (toPy d) = true := by
  obtain ⟨h1, h2⟩ := shaped_of 9 d h
  unfold SeqAt.shaped
  rw [h1, decide_eq_true (by omega)]
  rfl
end
/-- a list that may change, as it stands -/
def snap (M : Mp) (d : D) : D := match d with
  | .ref a => (match M a with | some (.lst ds) => .list ds | _ => .ref a)
  | d => d
def eqv (d e : D) : Bool := PyData.eqv (toPy d) (toPy e)
section
variable {X : Cx} {K : PySem.W.Frag} {a b : Expr} {ta tb : TE} {aa ab : aE} {pos : Pos}
theorem dp_snap {M : Mp} {N H : Hp} {v : V} {d : D} (c : CM K M N H) (r : RelD K N v d) (h : eqOk 9 (snap M d) = true) : Dp K H v (toPy (snap M d)) := by
  by_cases q : ∃ a, d = .ref a
  · obtain ⟨a, rfl⟩ := q
    have e := rel_ref r
    subst e
    cases e2 : M a with
    | none => simp [snap, e2, eqOk] at h
    | some m =>
      cases m with
      | lst ds =>
        obtain ⟨xs, h1, h2⟩ := c.lst e2
        have e3 : snap M (.ref a) = .list ds := by simp [snap, e2]
        rw [e3] at h ⊢
        rw [toPy]
        exact .lst (.of h1) (dps_of c.sm 8 ds _ (by simpa [eqOk] using h) h2)
      | dK _ => simp [snap, e2, eqOk] at h
      | dT _ => simp [snap, e2, eqOk] at h
      | ins _ _ => simp [snap, e2, eqOk] at h
      | tab _ => simp [snap, e2, eqOk] at h
  · have e : snap M d = d := by
      unfold snap
      split
      · exact absurd ⟨_, rfl⟩ q
      · rfl
    rw [e] at h ⊢
    exact dp_of c.sm 9 _ _ h r
def fEq : V2 := fun d e M Q => eqOk 9 (snap M d) = true ∧ eqOk 9 (snap M e) = true ∧ Q (.bl (eqv (snap M d) (snap M e))) M
def fNe : V2 := fun d e M Q => eqOk 9 (snap M d) = true ∧ eqOk 9 (snap M e) = true ∧ Q (.bl (!eqv (snap M d) (snap M e))) M
theorem s2_eq : S2 K (rEqD K) fEq := by
  intro E G M N σ H C x y d e rx ry Q Qc h k
  exact ⟨_, _, dp_snap C.cm rx h.1, dp_snap C.cm ry h.2.1, shaped9 h.1, shaped9 h.2.1, k.at C h.2.2 (.bl _)⟩
theorem s2_ne : S2 K (rNeD K) fNe := by
  intro E G M N σ H C x y d e rx ry Q Qc h k
  exact ⟨_, _, dp_snap C.cm rx h.1, dp_snap C.cm ry h.2.1, shaped9 h.1, shaped9 h.2.1, k.at C h.2.2 (.bl _)⟩
/-- is None -/
def isNon : D → Bool
  | .non => true
  | _ => false
def fIs : V2 := fun d e M Q => match e with
  | .non => Q (.bl (isNon d)) M
  | _ => False
def fIsNot : V2 := fun d e M Q => match e with
  | .non => Q (.bl (!isNon d)) M
  | _ => False
theorem isNon_dec {N : Hp} {v : V} {d : D} (r : RelD K N v d) : decide (v = .non) = isNon d := by
  cases r <;> simp [isNon]
theorem s2_is : S2 K (fun x y H Q => y = .non ∧ Q (.bl (decide (x = .non))) H) fIs := by
  intro E G M N σ H C x y d e rx ry Q Qc h k
  unfold fIs at h
  split at h
  · cases ry
    refine ⟨rfl, k.at C h ?_⟩
    rw [isNon_dec rx]; exact .bl _
  · exact h.elim
theorem s2_isNot : S2 K (fun x y H Q => y = .non ∧ Q (.bl (!decide (x = .non))) H) fIsNot := by
  intro E G M N σ H C x y d e rx ry Q Qc h k
  unfold fIsNot at h
  split at h
  · cases ry
    refine ⟨rfl, k.at C h ?_⟩
    rw [isNon_dec rx]; exact .bl _
  · exact h.elim

/-! ### keys -/
def keyOf : D → Option Key
  | .int i => some (.inl i)
  | .str x => some (.inr x)
  | _ => none
def keysOf : List D → Option (List Key)
  | [] => some []
  | d :: ds => match keyOf d, keysOf ds with
    | some k, some ks => some (k :: ks)
    | _, _ => none
theorem key_rel {N : Hp} {v : V} {d : D} {q : Key} (r : RelD K N v d) (h : keyOf d = some q) : v = kV q := by
  cases r <;> simp [keyOf] at h <;> subst h <;> rfl
theorem keys_rel {N : Hp} : ∀ {vs : List V} {ds : List D} {q : List Key}, RelL K N vs ds → keysOf ds = some q → vs = q.map kV
  | _, _, q, .nil, h => by simp [keysOf] at h; subst h; rfl
  | _, _, q, .cons h1 r1, h => by
    unfold keysOf at h
    split at h
    · rename_i k ks e1 e2
      cases h
      rw [key_rel h1 e1, keys_rel r1 e2]
      rfl
    · cases h
def keyT : D → Option (List Key)
  | .tup ds => keysOf ds
  | _ => none
theorem keyT_rel {N : Hp} {v : V} {d : D} {q : List Key} (r : RelD K N v d) (h : keyT d = some q) : ∃ b, v = .ref b ∧ N b = some (.tup (q.map kV)) := by
  unfold keyT at h
  split at h
  · obtain ⟨b, xs, rfl, hb, rb⟩ := rel_tup r
    have e3 := keys_rel rb h
    subst e3
    exact ⟨b, rfl, hb⟩
  · cases h
def valD {k : Type} [DecidableEq k] (gs : List (k × D)) (x : k) : Option D := (gs.find? fun kv => decide (kv.1 = x)).map (·.2)
def putD {k : Type} [DecidableEq k] (gs : List (k × D)) (x : k) (d : D) : List (k × D) := if (gs.any fun kv => decide (kv.1 = x)) = true then gs.map (fun kv => if kv.1 = x then (kv.1, d) else kv) else gs ++ [(x, d)]
theorem RelF.val {N : Hp} {k : Type} [DecidableEq k] (x : k) : ∀ {vs : List (k × V)} {gs : List (k × D)}, RelF K N vs gs → (valV vs x = none ∧ valD gs x = none) ∨ ∃ v d, valV vs x = some v ∧ valD gs x = some d ∧ RelD K N v d
  | _, _, .nil => .inl ⟨rfl, rfl⟩
  | _, _, .cons (x := y) h r => by
    by_cases q : y = x
    · refine .inr ⟨_, _, valV_pos q, ?_, h⟩
      unfold valD
      rw [List.find?_cons_of_pos (by simp [q])]
      rfl
    · have e1 : ∀ {v : V} {r : List (k × V)}, valV ((y, v) :: r) x = valV r x := fun {v r} => valV_neg (p := (y, v)) (r := r) q
      rcases RelF.val x r with ⟨h1, h2⟩ | ⟨v, d, h1, h2, h3⟩
      · refine .inl ⟨by rw [e1, h1], ?_⟩
        unfold valD at *
        rw [List.find?_cons_of_neg (by simp [q])]
        exact h2
      · refine .inr ⟨v, d, by rw [e1, h1], ?_, h3⟩
        unfold valD at *
        rw [List.find?_cons_of_neg (by simp [q])]
        exact h2
theorem RelF.anyK {N : Hp} {k : Type} [DecidableEq k] (x : k) : ∀ {vs : List (k × V)} {gs : List (k × D)}, RelF K N vs gs → (vs.any fun kv => decide (kv.1 = x)) = (gs.any fun kv => decide (kv.1 = x))
  | _, _, .nil => rfl
  | _, _, .cons h r => by rw [List.any_cons, List.any_cons, RelF.anyK x r]
theorem RelF.app {N : Hp} {k : Type} : ∀ {vs ws : List (k × V)} {gs hs : List (k × D)}, RelF K N vs gs → RelF K N ws hs → RelF K N (vs ++ ws) (gs ++ hs)
  | _, _, _, _, .nil, s => s
  | _, _, _, _, .cons h r, s => .cons h (RelF.app r s)
theorem RelF.repl {N : Hp} {k : Type} [DecidableEq k] (x : k) {v : V} {d : D} (hd : RelD K N v d) : ∀ {vs : List (k × V)} {gs : List (k × D)}, RelF K N vs gs → RelF K N (vs.map fun kv => if kv.1 = x then (kv.1, v) else kv) (gs.map fun kv => if kv.1 = x then (kv.1, d) else kv)
  | _, _, .nil => .nil
  | _, _, .cons (x := y) h r => by
    rw [List.map_cons, List.map_cons]
    by_cases q : y = x
    · simp only [q, if_true]
      exact .cons hd (RelF.repl x hd r)
    · simp only [q, if_false]
      exact .cons h (RelF.repl x hd r)
theorem RelF.put {N : Hp} {k : Type} [DecidableEq k] (x : k) {v : V} {d : D} {vs : List (k × V)} {gs : List (k × D)} (r : RelF K N vs gs) (hd : RelD K N v d) : RelF K N (putK vs x v) (putD gs x d) := by
  unfold putK putD
  rw [r.anyK x]
  split
  · exact r.repl x hd
  · exact r.app (.cons hd .nil)
/-- what a dict (still or changing) holds at a key: none: no dict or no key; some o: o -/
def getDk (M : Mp) (d key : D) : Option (Option D) := match d with
  | .dK gs => (keyOf key).map (valD gs)
  | .dT gs => (keyT key).map (valD gs)
  | .ref a => (match M a with
    | some (.dK gs) => (keyOf key).map (valD gs)
    | some (.dT gs) => (keyT key).map (valD gs)
    | _ => none)
  | _ => none
theorem dget_of {M : Mp} {N H : Hp} {v y : V} {d key : D} {o : Option D} (c : CM K M N H) (r : RelD K N v d) (ry : RelD K N y key) (h : getDk M d key = some o) :
    ∃ a oV, v = .ref a ∧ DGet H a y oV ∧ ((oV = none ∧ o = none) ∨ ∃ x e, oV = some x ∧ o = some e ∧ RelD K N x e) := by
  have go1 : ∀ {a : Addr} {kvs : List (Key × V)} {gs : List (Key × D)}, Rd H a (.dK kvs) → RelF K N kvs gs → (keyOf key).map (valD gs) = some o →
      ∃ oV, DGet H a y oV ∧ ((oV = none ∧ o = none) ∨ ∃ x e, oV = some x ∧ o = some e ∧ RelD K N x e) := fun {a kvs gs} h1 r1 h2 => by
    obtain ⟨q, e1, e2⟩ := Option.map_eq_some_iff.mp h2
    have e3 := key_rel ry e1
    subst e3
    refine ⟨valV kvs q, .inl ⟨kvs, q, h1, rfl, rfl⟩, ?_⟩
    rcases r1.val q with ⟨x1, x2⟩ | ⟨x, e, x1, x2, x3⟩
    · exact .inl ⟨x1, by rw [← e2, x2]⟩
    · exact .inr ⟨x, e, x1, by rw [← e2, x2], x3⟩
  have go2 : ∀ {a : Addr} {kvs : List (List Key × V)} {gs : List (List Key × D)}, Rd H a (.dT kvs) → RelF K N kvs gs → (keyT key).map (valD gs) = some o →
      ∃ oV, DGet H a y oV ∧ ((oV = none ∧ o = none) ∨ ∃ x e, oV = some x ∧ o = some e ∧ RelD K N x e) := fun {a kvs gs} h1 r1 h2 => by
    obtain ⟨q, e1, e2⟩ := Option.map_eq_some_iff.mp h2
    obtain ⟨b, rfl, hb⟩ := keyT_rel ry e1
    refine ⟨valV kvs q, .inr ⟨kvs, q, b, h1, rfl, c.sm _ _ hb, rfl⟩, ?_⟩
    rcases r1.val q with ⟨x1, x2⟩ | ⟨x, e, x1, x2, x3⟩
    · exact .inl ⟨x1, by rw [← e2, x2]⟩
    · exact .inr ⟨x, e, x1, by rw [← e2, x2], x3⟩
  unfold getDk at h
  split at h
  · cases r with | dK h1 r1 =>
    obtain ⟨oV, g1, g2⟩ := go1 (.inr ⟨_, c.sm _ _ h1⟩) r1 h
    exact ⟨_, oV, rfl, g1, g2⟩
  · cases r with | dT h1 r1 =>
    obtain ⟨oV, g1, g2⟩ := go2 (.inr ⟨_, c.sm _ _ h1⟩) r1 h
    exact ⟨_, oV, rfl, g1, g2⟩
  · have e := rel_ref r
    subst e
    split at h
    · rename_i gs e
      obtain ⟨kvs, h1, r1⟩ := c.dKs e
      obtain ⟨oV, g1, g2⟩ := go1 (.inl h1) r1 h
      exact ⟨_, oV, rfl, g1, g2⟩
    · rename_i gs e
      obtain ⟨kvs, h1, r1⟩ := c.dTs e
      obtain ⟨oV, g1, g2⟩ := go2 (.inl h1) r1 h
      exact ⟨_, oV, rfl, g1, g2⟩
    · cases h
  · cases h

/-! ### in, not in -/
def flatD : D → Bool
  | .non => true
  | .bl _ => true
  | .int _ => true
  | .str _ => true
  | _ => false
def eqF : D → D → Bool
  | .non, .non => true
  | .bl a, .bl b => a == b
  | .bl a, .int b => (if a then 1 else 0) == b
  | .int a, .bl b => a == (if b then 1 else 0)
  | .int a, .int b => a == b
  | .str a, .str b => a == b
  | _, _ => false
def memD (d : D) (ds : List D) : Bool := ds.any fun e => eqF e d
theorem flat_rel {N : Hp} {v : V} {d : D} (r : RelD K N v d) (h : flatD d = true) : flatV v = true := by
  cases r <;> first | rfl | simp [flatD] at h
theorem eqF_rel {N : Hp} {v w : V} {d e : D} (r : RelD K N v d) (q : RelD K N w e) (h : flatD d = true) (h2 : flatD e = true) : eqV v w = eqF d e := by
  cases r <;> first | (simp [flatD] at h; done) | (cases q <;> first | rfl | (simp [flatD] at h2; done))
theorem flats_rel {N : Hp} : ∀ {vs : List V} {ds : List D}, RelL K N vs ds → ds.all flatD = true → vs.all flatV = true
  | _, _, .nil, _ => rfl
  | _, _, .cons h r, q => by
    rw [List.all_cons, Bool.and_eq_true] at q ⊢
    exact ⟨flat_rel h q.1, flats_rel r q.2⟩
theorem mem_rel {N : Hp} {v : V} {d : D} (rd : RelD K N v d) (hd : flatD d = true) : ∀ {vs : List V} {ds : List D}, RelL K N vs ds → ds.all flatD = true → inV v vs = memD d ds
  | _, _, .nil, _ => rfl
  | _, _, .cons h r, q => by
    rw [List.all_cons, Bool.and_eq_true] at q
    have e := mem_rel rd hd r q.2
    unfold inV memD at *
    rw [List.any_cons, List.any_cons, e, eqF_rel h rd q.1 hd]
def fIn (neg : Bool) : V2 := fun d e M Q => match itemsM M e with
  | some ds => flatD d = true ∧ ds.all flatD = true ∧ Q (.bl (if neg then !memD d ds else memD d ds)) M
  | none => match getDk M e d with
    | some o => Q (.bl (if neg then !o.isSome else o.isSome)) M
    | none => match d, e with
      | .str i, .str j => Q (.bl (if neg then !(!(Builtin.Str.occurrences j i 0 j.length 1).isEmpty) else !(Builtin.Str.occurrences j i 0 j.length 1).isEmpty)) M
      | _, _ => False
def rDIn (neg : Bool) : R2 := fun y x H Q => ∃ a o, x = .ref a ∧ DGet H a y o ∧ Q (.bl (if neg then !o.isSome else o.isSome)) H
def rSIn (neg : Bool) : R2 := fun x y H Q => ∃ i j, x = .str i ∧ y = .str j ∧ Q (.bl (if neg then !(!(Builtin.Str.occurrences j i 0 j.length 1).isEmpty) else !(Builtin.Str.occurrences j i 0 j.length 1).isEmpty)) H
def rInA (K : PySem.W.Frag) (neg : Bool) : R2 := fun x y H Q => rIn K neg x y H Q ∨ (fun x y H Q => rDIn neg x y H Q ∨ rSIn neg x y H Q) x y H Q
theorem op_in_dict (hu : X.A.units + 1 < cLine) : OpR X (compareOp .In) (rDIn false) := by
  intro pins s σ H x y v u Q I rx ry h
  obtain ⟨a, o, rfl, g, q⟩ := h
  cases ry
  exact d_in hu I g rx fun s3 I3 => ⟨.bl o.isSome, H, I3, rfl, q⟩
theorem op_notIn_dict (hu : X.A.units + 1 < cLine) : OpR X (compareOp .NotIn) (rDIn true) := by
  intro pins s σ H x y v u Q I rx ry h
  obtain ⟨a, o, rfl, g, q⟩ := h
  cases ry
  exact d_notIn hu I g rx fun s3 I3 => ⟨.bl (!o.isSome), H, I3, rfl, q⟩
theorem op_inA (hu : X.A.units + 1 < cLine) : OpR X (compareOp .In) (rInA X.K false) := OpR.or op_in_seq (OpR.or (op_in_dict hu) op_in_str)
theorem op_notInA (hu : X.A.units + 1 < cLine) : OpR X (compareOp .NotIn) (rInA X.K true) := OpR.or op_notIn_seq (OpR.or (op_notIn_dict hu) op_notin_str)
theorem s2_in {neg : Bool} : S2 K (rInA K neg) (fIn neg) := by
  intro E G M N σ H C x y d e rx ry Q Qc h k
  unfold fIn at h
  split at h
  · rename_i ds hi
    obtain ⟨h1, h2, h3⟩ := h
    obtain ⟨a, xs, rfl, r2, h4⟩ := rel_itemsM C.cm ry hi
    refine .inl ⟨a, xs, rfl, ?_, flat_rel rx h1, flats_rel r2 h2, ?_⟩
    · rcases h4 with ⟨_, h4⟩ | ⟨_, h4⟩
      · exact .inl h4
      · exact .inr h4
    · rw [mem_rel rx h1 r2 h2]
      exact k.at C h3 (.bl _)
  · split at h
    · rename_i o ho
      obtain ⟨a, oV, rfl, g, e⟩ := dget_of C.cm ry rx ho
      refine .inr (.inl ⟨a, oV, rfl, g, ?_⟩)
      have e2 : oV.isSome = o.isSome := by rcases e with ⟨e1, e2⟩ | ⟨_, _, e1, e2, _⟩ <;> rw [e1, e2] <;> rfl
      rw [e2]
      exact k.at C h (.bl _)
    · split at h
      · cases rx; cases ry
        exact .inr (.inr ⟨_, _, rfl, rfl, k.at C h (.bl _)⟩)
      · exact h.elim

/-! ### subscripts -/
def fIx : V2 := fun d e M Q => match e with
  | .int i => (match itemsM M d with
    | some ds => (match atI ds i with | some x => Q x M | none => False)
    | none => (match d with
      | .str z => z.length ≤ 1000000 ∧ (match atI z.cps.toList i with | some c => Q (.str ⟨#[c]⟩) M | none => False)
      | d => (match getDk M d (.int i) with | some (some x) => Q x M | _ => False)))
  | e => (match getDk M d e with | some (some x) => Q x M | _ => False)
def rIxD : R2 := fun x y H Q => ∃ a v, x = .ref a ∧ DGet H a y (some v) ∧ Q v H
theorem ix_dict (hu : X.A.units + 1 < cLine) : IxR X rIxD := by
  intro value slice pins s σ H x y v u Q I rx ry h hs
  obtain ⟨a, z, rfl, g, q⟩ := h
  cases rx
  exact tail_any (dict_typeIs I g) PySem.F.slot_dict_getitem.lookup (d_getItem hu I g ry fun w' s3 I3 rw' => ⟨z, H, I3, rw', q⟩) hs
def rIxA (K : PySem.W.Frag) : R2 := fun x y H Q => rIx K x y H Q ∨ rIxD x y H Q
theorem ix_any (hu : X.A.units + 1 < cLine) : IxR X (rIxA X.K) := IxR.or ix_seq (ix_dict hu)
theorem s2_ix : S2 K (rIxA K) fIx := by
  intro E G M N σ H C x y d e rx ry Q Qc h k
  have go : (match getDk M d e with | some (some x) => Q x M | _ => False) → rIxA K x y H Qc := fun h => by
    split at h
    · rename_i z hz
      obtain ⟨a, oV, rfl, g, e⟩ := dget_of C.cm rx ry hz
      rcases e with ⟨_, e⟩ | ⟨x1, x2, rfl, e, r⟩
      · cases e
      · cases e
        exact .inr ⟨a, _, rfl, g, k.at C h r⟩
    · exact h.elim
  unfold fIx at h
  split at h
  · rename_i i
    cases ry
    split at h
    · rename_i ds hi
      split at h
      · rename_i z hz
        obtain ⟨a, xs, rfl, r2, h4⟩ := rel_itemsM C.cm rx hi
        obtain ⟨w, e1, e2⟩ := r2.atI hz
        rcases h4 with ⟨_, h4⟩ | ⟨_, h4⟩
        · exact .inl (.inl ⟨a, xs, i, w, rfl, rfl, h4, e1, k.at C h e2⟩)
        · exact .inl (.inr (.inl ⟨a, xs, i, w, rfl, rfl, h4, e1, k.at C h e2⟩))
      · exact h.elim
    · split at h
      · cases rx
        obtain ⟨h0, h⟩ := h
        split at h
        · rename_i c hc
          exact .inl (.inr (.inr ⟨_, i, c, rfl, rfl, big_le h0, hc, k.at C h (.str _)⟩))
        · exact h.elim
      · exact go h
  · exact go h
theorem de_ix (hu : X.A.units + 1 < cLine) (ha : DE X a ta aa) (hb : DE X b tb ab) (hs : PlainIx b) : DE X (.Subscript a b pos) (tOp (rIxA X.K) ta tb) (aBin fIx aa ab) := ⟨pe_ix (ix_any hu) ha.pe hb.pe hs, se_op s2_ix ha.se hb.se⟩
end
end DL

set_option Elab.async false
set_option linter.all false
set_option maxRecDepth 100000
namespace DL
open PySem PySem.Spec PyProof.Rows L2
section
variable {X : Cx} {K : PySem.W.Frag} {e a b c : Expr} {es : List Expr} {te ta tb tc : TE} {t : TA} {ae aa ab ac : aE} {at1 : aA} {pos : Pos}
theorem hasL {N H : Hp} {p : Addr} {xs : List V} {ds : List D} (h : H p = some (.lst xs)) (r : RelL K N xs ds) : HasM K N H p (.lst ds) := ⟨xs, h, r⟩
theorem hasK {N H : Hp} {p : Addr} {xs : List (Key × V)} {ds : List (Key × D)} (h : H p = some (.dK xs)) (r : RelF K N xs ds) : HasM K N H p (.dK ds) := ⟨xs, h, r⟩
theorem hasT {N H : Hp} {p : Addr} {xs : List (List Key × V)} {ds : List (List Key × D)} (h : H p = some (.dT xs)) (r : RelF K N xs ds) : HasM K N H p (.dT ds) := ⟨xs, h, r⟩
theorem hasI {N H : Hp} {p C dx : Addr} {xs : List (Str × V)} {ds : List (Str × D)} (h : H p = some (.ins C dx xs)) (r : RelF K N xs ds) : HasM K N H p (.ins C ds) := ⟨dx, xs, h, r⟩
/-! ### argument lists, displays -/
def aNil : aA := fun _ M Q => Q [] M
def aCons (x : aE) (r : aA) : aA := fun G M Q => x G M fun d M1 => r G M1 fun ds M2 => Q (d :: ds) M2
theorem sa_nil : SA K tNil aNil := fun E G M N σ H C Q Qc h k => k [] [] M N H h C (Same.refl N) .nil
theorem sa_cons (h : SE K te ae) (h2 : SA K t at1) : SA K (tCons te t) (aCons ae at1) := by
  intro E G M N σ H C Q Qc q k
  refine h E G M N σ H C _ _ q fun d v M1 N1 H1 h1 C1 s1 r1 => ?_
  refine h2 E G M1 N1 σ H1 C1 _ _ h1 fun ds vs M2 N2 H2 h2 C2 s2 r2 => ?_
  exact k _ _ M2 N2 H2 h2 C2 (s1.trans s2) (.cons (r1.mono s2) r2)
theorem da_nil : DA X [] tNil aNil := ⟨pa_nil, sa_nil⟩
theorem da_cons (ha : DE X e te ae) (hr : DA X es t at1) (hs : starEach (e :: es) X.env = (false, eval e X.env) :: starEach es X.env := by rfl) : DA X (e :: es) (tCons te t) (aCons ae at1) := ⟨pa_cons ha.pe hr.pa hs, sa_cons ha.se hr.sa⟩
/-- a tuple; a list that stands still; a list that may change -/
def aTup (x : aA) : aE := fun G M Q => x G M fun ds M1 => ds.length ≤ 1000000 ∧ Q (.tup ds) M1
def aLst (x : aA) : aE := fun G M Q => x G M fun ds M1 => ds.length ≤ 1000000 ∧ Q (.list ds) M1
def aLstM (x : aA) : aE := fun G M Q => x G M fun ds M1 => ds.length ≤ 1000000 ∧ ∀ p, M1 p = none → Q (.ref p) (mupd M1 p (.lst ds))
theorem se_tup (h : SA K t at1) : SE K (tTup t) (aTup at1) := by
  intro E G M N σ H C Q Qc q k
  refine h E G M N σ H C _ _ q fun ds vs M1 N1 H1 h1 C1 s1 r1 => ⟨by rw [r1.length]; exact big_le h1.1, fun p hp => ?_⟩
  exact (k.from s1).new C1 hp h1.2 fun N' s e => .tup e (r1.mono s)
theorem se_lst (h : SA K t at1) : SE K (tLst t) (aLst at1) := by
  intro E G M N σ H C Q Qc q k
  refine h E G M N σ H C _ _ q fun ds vs M1 N1 H1 h1 C1 s1 r1 => ⟨by rw [r1.length]; exact big_le h1.1, fun p hp => ?_⟩
  exact (k.from s1).new C1 hp h1.2 fun N' s e => .list e (r1.mono s)
theorem se_lstM (h : SA K t at1) : SE K (tLst t) (aLstM at1) := by
  intro E G M N σ H C Q Qc q k
  refine h E G M N σ H C _ _ q fun ds vs M1 N1 H1 h1 C1 s1 r1 => ⟨by rw [r1.length]; exact big_le h1.1, fun p hp => ?_⟩
  exact (k.from s1).newM C1 hp (hasL upd_same r1) (h1.2 p (C1.cm.noneM hp))
theorem de_tup {x1} (h : DA X es t at1) : DE X (.Tuple es x1 pos) (tTup t) (aTup at1) := ⟨pe_tup h.pa, se_tup h.sa⟩
theorem de_lst (h : DA X es t at1) : DE X (.List es pos) (tLst t) (aLst at1) := ⟨pe_lst h.pa, se_lst h.sa⟩
theorem de_lstM (h : DA X es t at1) : DE X (.List es pos) (tLst t) (aLstM at1) := ⟨pe_lst h.pa, se_lstM h.sa⟩
/-- {} to change, with int and text keys; with tuple keys -/
def aDNewK : aE := fun _ M Q => ∀ p, M p = none → Q (.ref p) (mupd M p (.dK []))
def aDNewT : aE := fun _ M Q => ∀ p, M p = none → Q (.ref p) (mupd M p (.dT []))
theorem de_dnewK : DE X (.Dict [] [] pos) tDNewK aDNewK := ⟨pe_dnewK, by
  intro E G M N σ H C Q Qc q k p hp
  exact k.newM C hp (hasK upd_same .nil) (q p (C.cm.noneM hp))⟩
theorem de_dnewT : DE X (.Dict [] [] pos) tDNewT aDNewT := ⟨pe_dnewT, by
  intro E G M N σ H C Q Qc q k p hp
  exact k.newM C hp (hasT upd_same .nil) (q p (C.cm.noneM hp))⟩

/-! ### tests -/
def truD (M : Mp) : D → Option Bool
  | .non => some false
  | .bl b => some b
  | .int i => some (i != 0)
  | .str y => if y.length ≤ 1000000 then some ((y.length : Int) != 0) else none
  | .list xs => some (!xs.isEmpty)
  | .rol xs => some (!xs.isEmpty)
  | .tup xs => some (!xs.isEmpty)
  | .rot xs => some (!xs.isEmpty)
  | .dK gs => some (!gs.isEmpty)
  | .ref a => (match M a with
    | some (.lst ds) => some (!ds.isEmpty)
    | some (.dK ds) => some (!ds.isEmpty)
    | _ => none)
  | _ => none
theorem emp_L {N : Hp} {xs : List V} {ds : List D} (r : RelL K N xs ds) : xs.isEmpty = ds.isEmpty := by cases r <;> rfl
theorem emp_F {N : Hp} {k : Type} {xs : List (k × V)} {ds : List (k × D)} (r : RelF K N xs ds) : xs.isEmpty = ds.isEmpty := by cases r <;> rfl
/-- .. also of a locked dict -/
def TruF (K : PySem.W.Frag) (x : V) (H : Hp) (k : Bool) : Prop := TruV K x H k ∨ ∃ p ob kvs, x = .ref p ∧ H p = some (.frz ob (.dK kvs)) ∧ k = !kvs.isEmpty
theorem tru_okF : TruR X (fun x H Q => ∃ k, TruF X.K x H k ∧ Q k H) := by
  intro pins s σ H x v Q I rx h
  obtain ⟨k, e | ⟨p, ob, kvs, rfl, hx, rfl⟩, q⟩ := h
  · exact tru_ok pins s σ H x v Q I rx ⟨k, e, q⟩
  · cases rx
    have hl := line63
    obtain ⟨_, hz, hS, vs, r, m⟩ : s.heap.get? p = some ob ∧ kvs.length ≤ sizeLine ∧ (p == sysModules) = false ∧ ∃ vs, KV kvs vs ∧ s.heap.DictOf (mixKind X.prog X.w) p vs := I.hok p _ hx
    have hlen : kvs.length = vs.length := Paired.length r
    exact wpAny_truthy_dict hS m (by omega) ⟨H, I.tok _, by rw [isEmpty_kv r]; exact q⟩
theorem pt_truthF (ha : PE X a ta) (he : ∀ whole, isTrue a X.env whole = (do let v ← whole; standAt a.pos; holding [v] (truthy v))) :
    PT X a (fun σ H Q => ta σ H fun x H' => ∃ k, TruF X.K x H' k ∧ Q k H') := by
  refine ⟨fun pins s σ H Q I h => ?_⟩
  exact isTrue_plain (thn (ha.run pins s σ H _ I h) fun v s1 ⟨x, H1, I1, r1, q1⟩ => tru_okF pins s1 σ H1 x v Q I1 r1 q1) (he _)
theorem tru_rel {M : Mp} {N H : Hp} {v : V} {d : D} {k : Bool} (c : CM K M N H) (r : RelD K N v d) (h : truD M d = some k) : TruF K v H k := by
  cases r <;> simp only [truD] at h
  case non => cases h; exact .inl rfl
  case bl => cases h; exact .inl rfl
  case int => cases h; exact .inl rfl
  case str y =>
    split at h
    · rename_i h2
      cases h
      exact .inl ⟨big_le h2, rfl⟩
    · cases h
  case ty => cases h
  case list h1 r1 => cases h; exact .inl (.inl ⟨_, .of (c.sm _ _ h1), by rw [emp_L r1]⟩)
  case rol h1 r1 => cases h; exact .inl (.inl ⟨_, c.sm.seq h1, by rw [emp_L r1]⟩)
  case tup h1 r1 => cases h; exact .inl (.inr (.inl ⟨_, .of (c.sm _ _ h1), by rw [emp_L r1]⟩))
  case rot h1 r1 => cases h; exact .inl (.inr (.inl ⟨_, same_seqT c.sm h1, by rw [emp_L r1]⟩))
  case obj => cases h
  case dK h1 r1 => cases h; exact .inr ⟨_, _, _, rfl, c.sm _ _ h1, by rw [emp_F r1]⟩
  case dT => cases h
  case ref a =>
    split at h
    · rename_i ds e
      cases h
      obtain ⟨xs, h1, r1⟩ := c.lst e
      exact .inl (.inl ⟨_, .of h1, by rw [emp_L r1]⟩)
    · rename_i ds e
      cases h
      obtain ⟨xs, h1, r1⟩ := c.dKs e
      exact .inl (.inr (.inr ⟨_, h1, by rw [emp_F r1]⟩))
    · cases h
def aTru (x : aE) : aT := fun G M Q => x G M fun d M1 => match truD M1 d with
  | some k => Q k M1
  | none => False
theorem dt_tru (ha : DE X a ta aa) (he : ∀ whole, isTrue a X.env whole = (do let v ← whole; standAt a.pos; holding [v] (truthy v)) := by intro _; rfl) :
    DT X a (fun σ H Q => ta σ H fun x H' => ∃ k, TruF X.K x H' k ∧ Q k H') (aTru aa) := ⟨pt_truthF ha.pe he, by
  intro E G M N σ H C Q Qc q k
  refine ha.se E G M N σ H C _ _ q fun d v M1 N1 H1 h1 C1 s1 r1 => ?_
  split at h1
  · rename_i b hb
    exact ⟨b, tru_rel C1.cm r1 hb, k b M1 N1 H1 h1 C1 s1⟩
  · exact h1.elim⟩
variable {tA tB' : TT} {aA' aB' : aT} {rest : List Expr}
def atAnd (x y : aT) : aT := fun G M Q => x G M fun b M1 => if b = true then y G M1 Q else Q false M1
def atOr (x y : aT) : aT := fun G M Q => x G M fun b M1 => if b = true then Q true M1 else y G M1 Q
def atNot (x : aT) : aT := fun G M Q => x G M fun b M1 => Q (!b) M1
theorem st_and (h : ST K tA aA') (h2 : ST K tB' aB') : ST K (tAnd tA tB') (atAnd aA' aB') := by
  intro E G M N σ H C Q Qc q k
  refine h E G M N σ H C _ _ q fun b M1 N1 H1 h1 C1 s1 => ?_
  cases b with
  | true =>
    rw [if_pos rfl] at h1 ⊢
    exact h2 E G M1 N1 σ H1 C1 Q Qc h1 (k.from s1)
  | false =>
    rw [if_neg Bool.false_ne_true] at h1 ⊢
    exact k _ M1 N1 H1 h1 C1 s1
theorem st_or (h : ST K tA aA') (h2 : ST K tB' aB') : ST K (tOr tA tB') (atOr aA' aB') := by
  intro E G M N σ H C Q Qc q k
  refine h E G M N σ H C _ _ q fun b M1 N1 H1 h1 C1 s1 => ?_
  cases b with
  | true =>
    rw [if_pos rfl] at h1 ⊢
    exact k _ M1 N1 H1 h1 C1 s1
  | false =>
    rw [if_neg Bool.false_ne_true] at h1 ⊢
    exact h2 E G M1 N1 σ H1 C1 Q Qc h1 (k.from s1)
theorem st_not (h : ST K tA aA') : ST K (tNot tA) (atNot aA') := by
  intro E G M N σ H C Q Qc q k
  exact h E G M N σ H C _ _ q fun b M1 N1 H1 h1 C1 s1 => k _ M1 N1 H1 h1 C1 s1
theorem dw_and1 (ha : DT X a tA aA') : DW X (.BoolOp .And [a] pos) tA aA' := ⟨pw_and1 ha.pt, ha.st⟩
theorem dw_or1 (ha : DT X a tA aA') : DW X (.BoolOp .Or [a] pos) tA aA' := ⟨pw_or1 ha.pt, ha.st⟩
theorem dw_and (ha : DT X a tA aA') (hb : DW X (.BoolOp .And (b :: rest) pos) tB' aB') : DW X (.BoolOp .And (a :: b :: rest) pos) (tAnd tA tB') (atAnd aA' aB') := ⟨pw_and ha.pt hb.pw, st_and ha.st hb.st⟩
theorem dw_or (ha : DT X a tA aA') (hb : DW X (.BoolOp .Or (b :: rest) pos) tB' aB') : DW X (.BoolOp .Or (a :: b :: rest) pos) (tOr tA tB') (atOr aA' aB') := ⟨pw_or ha.pt hb.pw, st_or ha.st hb.st⟩
theorem DW.dt (h : DW X e tA aA') : DT X e tA aA' := ⟨h.pw.pt, h.st⟩
theorem dt_not (ha : DT X a tA aA') : DT X (.UnaryOp .Not a pos) (tNot tA) (atNot aA') := ⟨pt_not ha.pt, st_not ha.st⟩
/-- .. as values (bools) -/
def aAndV (x y : aE) : aE := fun G M Q => x G M fun d M1 => match d with
  | .bl k => if k = true then y G M1 Q else Q (.bl false) M1
  | _ => False
def aOrV (x y : aE) : aE := fun G M Q => x G M fun d M1 => match d with
  | .bl k => if k = true then Q (.bl true) M1 else y G M1 Q
  | _ => False
def fNot : V1 := fun d M Q => match d with
  | .bl k => Q (.bl (!k)) M
  | _ => False
theorem se_andV (h : SE K ta aa) (h2 : SE K tb ab) : SE K (tAndV ta tb) (aAndV aa ab) := by
  intro E G M N σ H C Q Qc q k
  refine h E G M N σ H C _ _ q fun d v M1 N1 H1 h1 C1 s1 r1 => ?_
  split at h1
  · rename_i b
    cases r1
    refine ⟨b, rfl, ?_⟩
    cases b with
    | true =>
      rw [if_pos rfl] at h1 ⊢
      exact h2 E G M1 N1 σ H1 C1 Q Qc h1 (k.from s1)
    | false =>
      rw [if_neg Bool.false_ne_true] at h1 ⊢
      exact (k.from s1).at C1 h1 (.bl _)
  · exact h1.elim
theorem se_orV (h : SE K ta aa) (h2 : SE K tb ab) : SE K (tOrV ta tb) (aOrV aa ab) := by
  intro E G M N σ H C Q Qc q k
  refine h E G M N σ H C _ _ q fun d v M1 N1 H1 h1 C1 s1 r1 => ?_
  split at h1
  · rename_i b
    cases r1
    refine ⟨b, rfl, ?_⟩
    cases b with
    | true =>
      rw [if_pos rfl] at h1 ⊢
      exact (k.from s1).at C1 h1 (.bl _)
    | false =>
      rw [if_neg Bool.false_ne_true] at h1 ⊢
      exact h2 E G M1 N1 σ H1 C1 Q Qc h1 (k.from s1)
  · exact h1.elim
theorem se_notV (h : SE K ta aa) : SE K (tNotV ta) (aUn fNot aa) := by
  intro E G M N σ H C Q Qc q k
  refine h E G M N σ H C _ _ q fun d v M1 N1 H1 h1 C1 s1 r1 => ?_
  unfold fNot at h1
  split at h1
  · cases r1
    exact ⟨_, rfl, (k.from s1).at C1 h1 (.bl _)⟩
  · exact h1.elim
theorem de_one {op} (h : DE X a ta aa) : DE X (.BoolOp op [a] pos) ta aa := ⟨pe_one h.pe, h.se⟩
theorem de_and (ha : DE X a ta aa) (hb : DE X (.BoolOp .And (b :: rest) pos) tb ab) : DE X (.BoolOp .And (a :: b :: rest) pos) (tAndV ta tb) (aAndV aa ab) := ⟨pe_and ha.pe hb.pe, se_andV ha.se hb.se⟩
theorem de_or (ha : DE X a ta aa) (hb : DE X (.BoolOp .Or (b :: rest) pos) tb ab) : DE X (.BoolOp .Or (a :: b :: rest) pos) (tOrV ta tb) (aOrV aa ab) := ⟨pe_or ha.pe hb.pe, se_orV ha.se hb.se⟩
theorem de_not (ha : DE X a ta aa) : DE X (.UnaryOp .Not a pos) (tNotV ta) (aUn fNot aa) := ⟨pe_not ha.pe, se_notV ha.se⟩
/-- a if t else b -/
def aIf (t : aT) (x y : aE) : aE := fun G M Q => t G M fun k M1 => if k = true then x G M1 Q else y G M1 Q
theorem de_ifExp (hc : DT X c tA aA') (ha : DE X a ta aa) (hb : DE X b tb ab) : DE X (.IfExp c a b pos) (tIf tA ta tb) (aIf aA' aa ab) := ⟨pe_ifExp hc.pt ha.pe hb.pe, by
  intro E G M N σ H C Q Qc q k
  refine hc.st E G M N σ H C _ _ q fun b M1 N1 H1 h1 C1 s1 => ?_
  cases b with
  | true =>
    rw [if_pos rfl] at h1 ⊢
    exact ha.se E G M1 N1 σ H1 C1 Q Qc h1 (k.from s1)
  | false =>
    rw [if_neg Bool.false_ne_true] at h1 ⊢
    exact hb.se E G M1 N1 σ H1 C1 Q Qc h1 (k.from s1)⟩

/-! ### calls of built-ins -/
def aCB (f : VL) (x : aA) : aE := fun G M Q => x G M fun ds M1 => f ds M1 Q
theorem se_cb {r : List V → Hp → VK → Prop} {f : VL} (hr : SL K r f) (h : SA K t at1) : SE K (tCB r t) (aCB f at1) := by
  intro E G M N σ H C Q Qc q k
  refine h E G M N σ H C _ _ q fun ds vs M1 N1 H1 h1 C1 s1 r1 => ?_
  exact hr E G M1 N1 σ H1 C1 vs ds r1 Q Qc h1 (k.from s1)
variable {x : Str} {p : Pos} {id T : String} {r : List V → Hp → VK → Prop} {f : VL}
theorem de_callB (hc : CallR X (.builtin id) r) (hs : SL X.K r f) (hg : Gl X x) (hm : X.mg x = none) (hv : bootBuiltins x = some (.builtin id)) (ha : DA X (e :: es) t at1) (hn : x ≠ "__name__" := by decide) (hdb : (x == ("__debug__" : Str)) = false := by decide)
    (he : starEach (e :: es) X.env = (false, eval e X.env) :: starEach es X.env := by rfl) (hpl : (backTo pos (starEach es X.env)).any (·.1) = false := by rfl) : DE X (.Call (.Name x p) (e :: es) [] pos) (tCB r t) (aCB f at1) :=
  ⟨pe_callB hc hg hm hv ha.pa hn hdb he hpl, se_cb hs ha.sa⟩
theorem de_callTy (hc : CallR X (.type T) r) (hs : SL X.K r f) (hg : Gl X x) (hm : X.mg x = none) (hv : bootBuiltins x = some (.type T)) (ha : DA X (e :: es) t at1) (hn : x ≠ "__name__" := by decide) (hdb : (x == ("__debug__" : Str)) = false := by decide)
    (he : starEach (e :: es) X.env = (false, eval e X.env) :: starEach es X.env := by rfl) (hpl : (backTo pos (starEach es X.env)).any (·.1) = false := by rfl) : DE X (.Call (.Name x p) (e :: es) [] pos) (tCB r t) (aCB f at1) :=
  ⟨pe_callTy hc hg hm hv ha.pa hn hdb he hpl, se_cb hs ha.sa⟩
theorem rel1 {N : Hp} {vs : List V} {d : D} (r : RelL K N vs [d]) : ∃ v, vs = [v] ∧ RelD K N v d := by cases r with | cons h r => cases r; exact ⟨_, rfl, h⟩
theorem rel2 {N : Hp} {vs : List V} {d e : D} (r : RelL K N vs [d, e]) : ∃ v w, vs = [v, w] ∧ RelD K N v d ∧ RelD K N w e := by cases r with | cons h r => cases r with | cons h2 r => cases r; exact ⟨_, _, rfl, h, h2⟩
/-- int(x) -/
def fInt : VL := fun ds M Q => match ds with
  | [.int i] => Q (.int i) M
  | [.bl k] => Q (.int (if k then 1 else 0)) M
  | _ => False
theorem sl_int : SL K (fun xs H Q => (∃ i, xs = [.int i] ∧ Q (.int i) H) ∨ ∃ k, xs = [.bl k] ∧ Q (.int (if k then 1 else 0)) H) fInt := by
  intro E G M N σ H C xs ds rx Q Qc h k
  unfold fInt at h
  split at h
  · obtain ⟨v, rfl, r⟩ := rel1 rx
    cases r
    exact .inl ⟨_, rfl, k.at C h (.int _)⟩
  · obtain ⟨v, rfl, r⟩ := rel1 rx
    cases r
    exact .inr ⟨_, rfl, k.at C h (.int _)⟩
  · exact h.elim
def fAbs : VL := fun ds M Q => match ds with
  | [.int i] => Q (.int (if i < 0 then -i else i)) M
  | _ => False
theorem sl_abs : SL K (fun xs H Q => ∃ i, xs = [.int i] ∧ Q (.int (if i < 0 then -i else i)) H) fAbs := by
  intro E G M N σ H C xs ds rx Q Qc h k
  unfold fAbs at h
  split at h
  · obtain ⟨v, rfl, r⟩ := rel1 rx
    cases r
    exact ⟨_, rfl, k.at C h (.int _)⟩
  · exact h.elim
def fMax2 : VL := fun ds M Q => match ds with
  | [.int i, .int j] => Q (.int (if j > i then j else i)) M
  | _ => False
theorem sl_max2 : SL K (fun xs H Q => ∃ i j, xs = [.int i, .int j] ∧ Q (.int (if j > i then j else i)) H) fMax2 := by
  intro E G M N σ H C xs ds rx Q Qc h k
  unfold fMax2 at h
  split at h
  · obtain ⟨v, w, rfl, r, r2⟩ := rel2 rx
    cases r; cases r2
    exact ⟨_, _, rfl, k.at C h (.int _)⟩
  · exact h.elim
def fMin2 : VL := fun ds M Q => match ds with
  | [.int i, .int j] => Q (.int (if j < i then j else i)) M
  | _ => False
theorem sl_min2 : SL K (fun xs H Q => ∃ i j, xs = [.int i, .int j] ∧ Q (.int (if j < i then j else i)) H) fMin2 := by
  intro E G M N σ H C xs ds rx Q Qc h k
  unfold fMin2 at h
  split at h
  · obtain ⟨v, w, rfl, r, r2⟩ := rel2 rx
    cases r; cases r2
    exact ⟨_, _, rfl, k.at C h (.int _)⟩
  · exact h.elim
/-- len(x): a text, a list, a tuple, a dict with int and text keys -/
def fLen : VL := fun ds M Q => match ds with
  | [d] => (match itemsM M d with
    | some xs => Q (.int (xs.length : Nat)) M
    | none => (match d with
      | .str z => z.length ≤ 1000000 ∧ Q (.int (z.length : Nat)) M
      | .dK gs => Q (.int (gs.length : Nat)) M
      | .ref a => (match M a with | some (.dK gs) => Q (.int (gs.length : Nat)) M | _ => False)
      | _ => False))
  | _ => False
def rLenD : List V → Hp → VK → Prop := fun xs H Q => ∃ a kvs, xs = [.ref a] ∧ Rd H a (.dK kvs) ∧ Q (.int (kvs.length : Nat)) H
theorem call_lenDd : CallR X (.builtin "len") rLenD := by
  intro pins s σ H xs us Q I r h
  obtain ⟨a, kvs, rfl, hd, q⟩ := h
  obtain rfl := r.ref1
  exact d_len I hd fun t s' I' => ⟨.int kvs.length, H, I', ⟨_, rfl⟩, q⟩
def rLenA (K : PySem.W.Frag) : List V → Hp → VK → Prop := fun xs H Q => (fun xs H Q => ∃ p ys, xs = [.ref p] ∧ (SqL K H p ys ∨ SqT K H p ys) ∧ Q (.int ys.length) H) xs H Q ∨ (fun xs H Q => (∃ z, xs = [.str z] ∧ z.length ≤ sizeLine ∧ Q (.int z.length) H) ∨ rLenD xs H Q) xs H Q
theorem call_lenA : CallR X (.builtin "len") (rLenA X.K) := CallR.or call_len_seq (CallR.or call_len_str call_lenDd)
theorem sl_len : SL K (rLenA K) fLen := by
  intro E G M N σ H C xs ds rx Q Qc h k
  unfold fLen at h
  split at h
  · rename_i d
    obtain ⟨v, rfl, r⟩ := rel1 rx
    split at h
    · rename_i ys hi
      obtain ⟨a, vs, rfl, r2, h4⟩ := rel_itemsM C.cm r hi
      refine .inl ⟨a, vs, rfl, ?_, ?_⟩
      · rcases h4 with ⟨_, h4⟩ | ⟨_, h4⟩
        · exact .inl h4
        · exact .inr h4
      · rw [r2.length]
        exact k.at C h (.int _)
    · split at h
      · cases r
        exact .inr (.inl ⟨_, rfl, big_le h.1, k.at C h.2 (.int _)⟩)
      · cases r with | dK h1 r1 =>
        refine .inr (.inr ⟨_, _, rfl, .inr ⟨_, C.cm.sm _ _ h1⟩, ?_⟩)
        rw [r1.length]
        exact k.at C h (.int _)
      · split at h
        · rename_i a gs e
          have e3 := rel_ref r
          subst e3
          obtain ⟨kvs, h1, r1⟩ := C.cm.dKs e
          refine .inr (.inr ⟨_, _, rfl, .of h1, ?_⟩)
          rw [r1.length]
          exact k.at C h (.int _)
        · exact h.elim
      · exact h.elim
  · exact h.elim
/-- list(x), tuple(x) of a list or a tuple -/
def fList : VL := fun ds M Q => match ds with
  | [d] => (match itemsM M d with | some xs => Q (.list xs) M | none => False)
  | _ => False
def fListM : VL := fun ds M Q => match ds with
  | [d] => (match itemsM M d with | some xs => ∀ p, M p = none → Q (.ref p) (mupd M p (.lst xs)) | none => False)
  | _ => False
def fTuple : VL := fun ds M Q => match ds with
  | [d] => (match itemsM M d with | some xs => Q (if isLM d then .tup xs else d) M | none => False)
  | _ => False
theorem sl_list : SL K (fun xs H Q => ∃ p ys, xs = [.ref p] ∧ (SqL K H p ys ∨ SqT K H p ys) ∧ ∀ l, H l = none → Q (.ref l) (upd H l (.lst ys))) fList := by
  intro E G M N σ H C xs ds rx Q Qc h k
  unfold fList at h
  split at h
  · obtain ⟨v, rfl, r⟩ := rel1 rx
    split at h
    · rename_i ys hi
      obtain ⟨a, vs, rfl, r2, h4⟩ := rel_itemsM C.cm r hi
      refine ⟨a, vs, rfl, ?_, fun l hl => k.new C hl h fun N' s e => .list e (r2.mono s)⟩
      rcases h4 with ⟨_, h4⟩ | ⟨_, h4⟩
      · exact .inl h4
      · exact .inr h4
    · exact h.elim
  · exact h.elim
theorem sl_listM : SL K (fun xs H Q => ∃ p ys, xs = [.ref p] ∧ (SqL K H p ys ∨ SqT K H p ys) ∧ ∀ l, H l = none → Q (.ref l) (upd H l (.lst ys))) fListM := by
  intro E G M N σ H C xs ds rx Q Qc h k
  unfold fListM at h
  split at h
  · obtain ⟨v, rfl, r⟩ := rel1 rx
    split at h
    · rename_i ys hi
      obtain ⟨a, vs, rfl, r2, h4⟩ := rel_itemsM C.cm r hi
      refine ⟨a, vs, rfl, ?_, fun l hl => k.newM C hl (hasL upd_same r2) (h l (C.cm.noneM hl))⟩
      rcases h4 with ⟨_, h4⟩ | ⟨_, h4⟩
      · exact .inl h4
      · exact .inr h4
    · exact h.elim
  · exact h.elim
theorem sl_tuple : SL K (fun xs H Q => ∃ p ys, xs = [.ref p] ∧ ((SqL K H p ys ∧ ∀ l, H l = none → Q (.ref l) (upd H l (.tup ys))) ∨ (SqT K H p ys ∧ Q (.ref p) H))) fTuple := by
  intro E G M N σ H C xs ds rx Q Qc h k
  unfold fTuple at h
  split at h
  · rename_i d
    obtain ⟨v, rfl, r⟩ := rel1 rx
    split at h
    · rename_i ys hi
      obtain ⟨a, vs, rfl, r2, h4⟩ := rel_itemsM C.cm r hi
      refine ⟨a, vs, rfl, ?_⟩
      rcases h4 with ⟨e, h4⟩ | ⟨e, h4⟩
      · rw [e, if_pos rfl] at h
        exact .inl ⟨h4, fun l hl => k.new C hl h fun N' s e => .tup e (r2.mono s)⟩
      · rw [e, if_neg Bool.false_ne_true] at h
        exact .inr ⟨h4, k.at C h r⟩
    · exact h.elim
  · exact h.elim
/-- all(xs), any(xs) of a list of bools -/
def bools : List D → Option (List Bool)
  | [] => some []
  | .bl b :: r => (bools r).map (b :: ·)
  | _ :: _ => none
theorem bools_rel {N : Hp} : ∀ {vs : List V} {ds : List D} {bs : List Bool}, RelL K N vs ds → bools ds = some bs → vs = bs.map V.bl
  | _, _, bs, .nil, h => by simp [bools] at h; subst h; rfl
  | _, _, bs, .cons h1 r, h => by
    cases h1 <;> simp [bools] at h
    obtain ⟨bs', h2, rfl⟩ := h
    rw [bools_rel r h2]
    rfl
def fAll : VL := fun ds M Q => match ds with
  | [d] => isLM d = true ∧ (match (itemsM M d).bind bools with | some bs => Q (.bl (bs.all _root_.id)) M | none => False)
  | _ => False
def fAny : VL := fun ds M Q => match ds with
  | [d] => isLM d = true ∧ (match (itemsM M d).bind bools with | some bs => Q (.bl (bs.any _root_.id)) M | none => False)
  | _ => False
theorem sl_all : SL K (rAll K) fAll := by
  intro E G M N σ H C xs ds rx Q Qc h k
  unfold fAll at h
  split at h
  · obtain ⟨v, rfl, r⟩ := rel1 rx
    obtain ⟨h0, h⟩ := h
    split at h
    · rename_i bs hb
      obtain ⟨ys, hi, hb⟩ := Option.bind_eq_some_iff.mp hb
      obtain ⟨a, vs, rfl, r2, h4⟩ := rel_itemsM C.cm r hi
      rw [h0] at h4
      have e := bools_rel r2 hb
      subst e
      rcases h4 with ⟨_, h4⟩ | ⟨e, _⟩
      · exact ⟨a, bs, rfl, h4, k.at C h (.bl _)⟩
      · cases e
    · exact h.elim
  · exact h.elim
theorem sl_any : SL K (rAny K) fAny := by
  intro E G M N σ H C xs ds rx Q Qc h k
  unfold fAny at h
  split at h
  · obtain ⟨v, rfl, r⟩ := rel1 rx
    obtain ⟨h0, h⟩ := h
    split at h
    · rename_i bs hb
      obtain ⟨ys, hi, hb⟩ := Option.bind_eq_some_iff.mp hb
      obtain ⟨a, vs, rfl, r2, h4⟩ := rel_itemsM C.cm r hi
      rw [h0] at h4
      have e := bools_rel r2 hb
      subst e
      rcases h4 with ⟨_, h4⟩ | ⟨e, _⟩
      · exact ⟨a, bs, rfl, h4, k.at C h (.bl _)⟩
      · cases e
    · exact h.elim
  · exact h.elim
/-- sum, max, min of a list of intsD -/
def intsD : List D → Option (List Int)
  | [] => some []
  | .int b :: r => (intsD r).map (b :: ·)
  | _ :: _ => none
theorem ints_rel {N : Hp} : ∀ {vs : List V} {ds : List D} {bs : List Int}, RelL K N vs ds → intsD ds = some bs → vs = bs.map V.int
  | _, _, bs, .nil, h => by simp [intsD] at h; subst h; rfl
  | _, _, bs, .cons h1 r, h => by
    cases h1 <;> simp [intsD] at h
    obtain ⟨bs', h2, rfl⟩ := h
    rw [ints_rel r h2]
    rfl
def fSum : VL := fun ds M Q => match ds with
  | [d] => isLM d = true ∧ (match (itemsM M d).bind intsD with | some bs => Q (.int bs.sum) M | none => False)
  | _ => False
def fMax : VL := fun ds M Q => match ds with
  | [d] => isLM d = true ∧ (match (itemsM M d).bind intsD with | some bs => 0 < bs.length ∧ ∀ m, m ∈ bs → (∀ y, y ∈ bs → y ≤ m) → Q (.int m) M | none => False)
  | _ => False
def fMin : VL := fun ds M Q => match ds with
  | [d] => isLM d = true ∧ (match (itemsM M d).bind intsD with | some bs => 0 < bs.length ∧ ∀ m, m ∈ bs → (∀ y, y ∈ bs → m ≤ y) → Q (.int m) M | none => False)
  | _ => False
theorem sl_sum : SL K (rSum K) fSum := by
  intro E G M N σ H C xs ds rx Q Qc h k
  unfold fSum at h
  split at h
  · obtain ⟨v, rfl, r⟩ := rel1 rx
    obtain ⟨h0, h⟩ := h
    split at h
    · rename_i bs hb
      obtain ⟨ys, hi, hb⟩ := Option.bind_eq_some_iff.mp hb
      obtain ⟨a, vs, rfl, r2, h4⟩ := rel_itemsM C.cm r hi
      rw [h0] at h4
      have e := ints_rel r2 hb
      subst e
      rcases h4 with ⟨_, h4⟩ | ⟨e, _⟩
      · exact ⟨a, bs, rfl, h4, k.at C h (.int _)⟩
      · cases e
    · exact h.elim
  · exact h.elim
theorem sl_max : SL K (rMax K) fMax := by
  intro E G M N σ H C xs ds rx Q Qc h k
  unfold fMax at h
  split at h
  · obtain ⟨v, rfl, r⟩ := rel1 rx
    obtain ⟨h0, h⟩ := h
    split at h
    · rename_i bs hb
      obtain ⟨ys, hi, hb⟩ := Option.bind_eq_some_iff.mp hb
      obtain ⟨a, vs, rfl, r2, h4⟩ := rel_itemsM C.cm r hi
      rw [h0] at h4
      have e := ints_rel r2 hb
      subst e
      rcases h4 with ⟨_, h4⟩ | ⟨e, _⟩
      · exact ⟨a, bs, rfl, h4, h.1, fun m h1 h2 => k.at C (h.2 m h1 h2) (.int _)⟩
      · cases e
    · exact h.elim
  · exact h.elim
theorem sl_min : SL K (rMin K) fMin := by
  intro E G M N σ H C xs ds rx Q Qc h k
  unfold fMin at h
  split at h
  · obtain ⟨v, rfl, r⟩ := rel1 rx
    obtain ⟨h0, h⟩ := h
    split at h
    · rename_i bs hb
      obtain ⟨ys, hi, hb⟩ := Option.bind_eq_some_iff.mp hb
      obtain ⟨a, vs, rfl, r2, h4⟩ := rel_itemsM C.cm r hi
      rw [h0] at h4
      have e := ints_rel r2 hb
      subst e
      rcases h4 with ⟨_, h4⟩ | ⟨e, _⟩
      · exact ⟨a, bs, rfl, h4, h.1, fun m h1 h2 => k.at C (h.2 m h1 h2) (.int _)⟩
      · cases e
    · exact h.elim
  · exact h.elim
end
end DL

set_option Elab.async false
set_option linter.all false
set_option maxRecDepth 100000
namespace DL
open PySem PySem.Spec PyProof.Rows L2
section
variable {X : Cx} {K : PySem.W.Frag} {e a b c o : Expr} {es : List Expr} {te ta tb tc to : TE} {t : TA} {ae aa ab ac ao : aE} {at1 : aA} {pos : Pos}
/-! ### methods of built-in types -/
/-- the type of a datum -/
def tyD (M : Mp) (d : D) : Option String := match d with
  | .non => some "NoneType" | .bl _ => some "bool" | .int _ => some "int" | .str _ => some "str"
  | .list _ => some "list" | .rol _ => some "list" | .tup _ => some "tuple" | .rot _ => some "tuple"
  | .ref a => (match M a with
    | some (.lst _) => some "list"
    | some (.dK _) => some "dict"
    | some (.dT _) => some "dict"
    | _ => none)
  | _ => none
abbrev VM := D → List D → Mp → QD → Prop
def SM (K : PySem.W.Frag) (T : String) (r : V → List V → Hp → VK → Prop) (f : VM) : Prop := ∀ E G M N σ H, CC K E G M N σ H → ∀ x d xs ds, RelD K N x d → RelL K N xs ds → ∀ Q Qc, f d ds M Q → Co K E G N σ Q Qc → r x xs H Qc
/-- o.m(..): the receiver's type is looked at before the arguments -/
def aBM (T : String) (f : VM) (x : aE) (y : aA) : aE := fun G M Q => x G M fun d M1 => tyD M1 d = some T ∧ y G M1 fun ds M2 => f d ds M2 Q
def aBM0 (T : String) (f : VM) (x : aE) : aE := fun G M Q => x G M fun d M1 => tyD M1 d = some T ∧ f d [] M1 Q
theorem tyV_rel {M : Mp} {N H : Hp} {v : V} {d : D} {T : String} (hT : T = "list" ∨ T = "dict" ∨ T = "str" ∨ T = "int") (c : CM K M N H) (r : RelD K N v d) (h : tyD M d = some T) : tyV K T v H := by
  cases r <;> simp only [tyD] at h
  case non => cases h; rcases hT with h | h | h | h <;> simp at h
  case bl => cases h; rcases hT with h | h | h | h <;> simp at h
  case int => cases h; rfl
  case str => cases h; rfl
  case ty => cases h
  case list h1 r1 => cases h; exact .inl ⟨rfl, _, .of (c.sm _ _ h1)⟩
  case rol h1 r1 => cases h; exact .inl ⟨rfl, _, c.sm.seq h1⟩
  case tup => cases h; rcases hT with h | h | h | h <;> simp at h
  case rot => cases h; rcases hT with h | h | h | h <;> simp at h
  case obj => cases h
  case dK => cases h
  case dT => cases h
  case ref a =>
    split at h
    · rename_i e
      cases h
      obtain ⟨xs, h1, _⟩ := c.lst e
      exact .inl ⟨rfl, _, .of h1⟩
    · rename_i e
      cases h
      obtain ⟨xs, h1, _⟩ := c.dKs e
      exact .inr (.inr (.inl ⟨rfl, .inl ⟨_, h1⟩⟩))
    · rename_i e
      cases h
      obtain ⟨xs, h1, _⟩ := c.dTs e
      exact .inr (.inr (.inl ⟨rfl, .inr ⟨_, h1⟩⟩))
    · cases h
variable {name : Str} {apos cpos : Pos} {T id : String} {r : V → List V → Hp → VK → Prop} {f : VM}
theorem de_bm0 (pa : PlainAttrs T) (slot : Slot T name id) (hty : typeOf (.builtin id) = pure (.type "method_descriptor")) (hm : MtR X id r) (hs : SM X.K T r f) (hT : T = "list" ∨ T = "dict" ∨ T = "str" ∨ T = "int") (ho : DE X o to ao)
    (hbase : attributeBase o name X.env (eval o X.env) = eval o X.env := by rfl) (hline : (apos.endLine == cpos.line) = true := by rfl) : DE X (.Call (.Attribute o name apos) [] [] cpos) (tBM0 X.K T r to) (aBM0 T f ao) :=
  ⟨pe_bm0 pa slot hty hm ho.pe hbase hline, by
    intro E G M N σ H C Q Qc q k
    refine ho.se E G M N σ H C _ _ q fun d v M1 N1 H1 h1 C1 s1 r1 => ⟨tyV_rel hT C1.cm r1 h1.1, ?_⟩
    exact hs E G M1 N1 σ H1 C1 v d [] [] r1 .nil Q Qc h1.2 (k.from s1)⟩
theorem de_bm (pa : PlainAttrs T) (slot : Slot T name id) (hty : typeOf (.builtin id) = pure (.type "method_descriptor")) (hm : MtR X id r) (hs : SM X.K T r f) (hT : T = "list" ∨ T = "dict" ∨ T = "str" ∨ T = "int") (ho : DE X o to ao) (ha : DA X (e :: es) t at1)
    (hbase : attributeBase o name X.env (eval o X.env) = eval o X.env := by rfl)
    (hfew : ((backTo cpos (starEach (e :: es) X.env)).all (fun x => !x.1) && (backToKw cpos (keywordEach [] X.env)).all (fun x => x.1.isSome)
      && decide ((e :: es).length + ([] : List Keyword).length + (if ([] : List Keyword).isEmpty then 0 else 1) < 30)) = true := by rfl)
    (hline : (apos.endLine == cpos.line) = true := by rfl) (hss : starEach (e :: es) X.env = (false, eval e X.env) :: starEach es X.env := by rfl) (hplain : (backTo cpos (starEach es X.env)).any (·.1) = false := by rfl) :
    DE X (.Call (.Attribute o name apos) (e :: es) [] cpos) (tBM X.K T r to t) (aBM T f ao at1) :=
  ⟨pe_bm pa slot hty hm ho.pe ha.pa hbase hfew hline hss hplain, by
    intro E G M N σ H C Q Qc q k
    refine ho.se E G M N σ H C _ _ q fun d v M1 N1 H1 h1 C1 s1 r1 => ⟨tyV_rel hT C1.cm r1 h1.1, ?_⟩
    refine ha.sa E G M1 N1 σ H1 C1 _ _ h1.2 fun ds vs M2 N2 H2 h2 C2 s2 r2 => ?_
    exact hs E G M2 N2 σ H2 C2 v d vs ds (r1.mono s2) r2 Q Qc h2 (k.from (s1.trans s2))⟩
/-- list.append -/
def fAppend : VM := fun d ds M Q => match d, ds with
  | .ref a, [x] => (match M a with | some (.lst xs) => xs.length < 1000000 ∧ Q .non (mupd M a (.lst (xs ++ [x]))) | _ => False)
  | _, _ => False
theorem sm_append : SM K "list" rAppend fAppend := by
  intro E G M N σ H C x d xs ds rx rs Q Qc h k
  unfold fAppend at h
  split at h
  · rename_i a y
    have e := rel_ref rx
    subst e
    obtain ⟨v, rfl, r⟩ := rel1 rs
    split at h
    · rename_i zs e
      obtain ⟨ws, h1, r1⟩ := C.cm.lst e
      refine ⟨a, ws, v, rfl, rfl, h1, by rw [r1.length]; exact big_lt (Nat.le_of_lt h.1), ?_⟩
      exact k.mut C e (hasL upd_same (r1.append (.cons r .nil))) h.2 .non
    · exact h.elim
  · exact h.elim
/-- list.pop() -/
def fPop : VM := fun d ds M Q => match d, ds with
  | .ref a, [] => (match M a with | some (.lst xs) => (match xs[xs.length - 1]? with | some y => Q y (mupd M a (.lst xs.dropLast)) | none => False) | _ => False)
  | _, _ => False
theorem sm_pop : SM K "list" rPop fPop := by
  intro E G M N σ H C x d xs ds rx rs Q Qc h k
  unfold fPop at h
  split at h
  · rename_i a
    have e := rel_ref rx
    subst e
    cases rs
    split at h
    · rename_i zs e
      obtain ⟨ws, h1, r1⟩ := C.cm.lst e
      split at h
      · rename_i y hy
        obtain ⟨w, hw, rw'⟩ := r1.getR hy
        refine ⟨a, ws, w, rfl, rfl, h1, by rw [r1.length]; exact hw, ?_⟩
        exact k.mut C e (hasL upd_same r1.dropLast) h rw'
      · exact h.elim
    · exact h.elim
  · exact h.elim
/-- list.extend of a list -/
def fExtend : VM := fun d ds M Q => match d, ds with
  | .ref a, [e] => (match M a, e with
    | some (.lst xs), .list ys => xs.length + ys.length ≤ 1000000 ∧ Q .non (mupd M a (.lst (xs ++ ys)))
    | _, _ => False)
  | _, _ => False
theorem sm_extend : SM K "list" rExtend fExtend := by
  intro E G M N σ H C x d xs ds rx rs Q Qc h k
  unfold fExtend at h
  split at h
  · rename_i a y
    have e := rel_ref rx
    subst e
    obtain ⟨v, rfl, r⟩ := rel1 rs
    split at h
    · rename_i zs ys e
      obtain ⟨ws, h1, r1⟩ := C.cm.lst e
      obtain ⟨q, us, rfl, h2, r2⟩ := rel_list r
      refine ⟨a, q, ws, us, rfl, rfl, h1, C.cm.sm _ _ h2, by rw [r1.length, r2.length]; exact big_le h.1, ?_⟩
      exact k.mut C e (hasL upd_same (r1.append r2)) h.2 .non
    · exact h.elim
  · exact h.elim

/-! ### attributes, own calls -/
def aFld (K : PySem.W.Frag) (x : aE) (f : Str) : aE := fun G M Q => x G M fun d M1 => match d with
  | .obj C gs => Cls K C ∧ NoAttr K C f ∧ (match gs.lookup f with | some y => Q y M1 | none => False)
  | .ref p => (match M1 p with
    | some (.ins C gs) => Cls K C ∧ NoAttr K C f ∧ (match gs.lookup f with | some y => Q y M1 | none => False)
    | _ => False)
  | _ => False
theorem se_fld {f : Str} (h : SE K ta aa) : SE K (tFld K ta f) (aFld K aa f) := by
  intro E G M N σ H C Q Qc q k
  refine h E G M N σ H C _ _ q fun d v M1 N1 H1 h1 C1 s1 r1 => ?_
  split at h1
  · obtain ⟨p, dx, fs, rfl, ho, r2⟩ := rel_obj r1
    obtain ⟨hc, hn, h1⟩ := h1
    split at h1
    · rename_i y hy
      obtain ⟨w, e1, e2⟩ := r2.lookup hy
      exact ⟨p, _, dx, fs, w, rfl, C1.cm.sm _ _ ho, hc, hn, e1, (k.from s1).at C1 h1 e2⟩
    · exact h1.elim
  · have e := rel_ref r1
    subst e
    split at h1
    · rename_i p _ C gs e
      obtain ⟨dx, fs, ho, r2⟩ := C1.cm.inst e
      obtain ⟨hc, hn, h1⟩ := h1
      split at h1
      · rename_i y hy
        obtain ⟨w, e1, e2⟩ := r2.lookup hy
        exact ⟨_, _, dx, fs, w, rfl, ho, hc, hn, e1, (k.from s1).at C1 h1 e2⟩
      · exact h1.elim
    · exact h1.elim
  · exact h1.elim
theorem de_fld {f : Str} (he : DE X e ta aa) (hb : attributeBase e f X.env (eval e X.env) = eval e X.env := by rfl) : DE X (.Attribute e f pos) (tFld X.K ta f) (aFld X.K aa f) := ⟨pe_fld he.pe hb, se_fld he.se⟩
/-- a def's promise over data -/
abbrev aSp := List D → Mp → QD → Prop
def lift (K : PySem.W.Frag) (n : Nat) (sp : aSp) : Sp := fun vs H Q _ => ∃ ds M N Q', ds.length = n ∧ CM K M N H ∧ RelL K N vs ds ∧ sp ds M Q' ∧
  ∀ d v M' N' H', Q' d M' → Fr M N H M' N' H' → CM K M' N' H' → RelD K N' v d → Q v H'
def aCall (n : Nat) (sp : aSp) (x : aA) : aE := fun G M Q => x G M fun ds M1 => ds.length = n ∧ sp ds M1 Q
theorem se_call {n : Nat} {sp : aSp} {E0' : XK} (h : SA K t at1) : SE K (tCall (lift K n sp) [] E0' t) (aCall n sp at1) := by
  intro E G M N σ H C Q Qc q k
  refine h E G M N σ H C _ _ q fun ds vs M1 N1 H1 h1 C1 s1 r1 => ?_
  rw [List.append_nil]
  exact ⟨ds, M1, N1, Q, h1.1, C1.cm, r1, h1.2, fun d v M' N' H' q' fr cm r => (k.from s1) d v M' N' H' q' (C1.step fr cm) fr.nn r⟩
variable {CX : CXT} {k n : Nat} {g C : Addr} {fd : FuncData} {ps : List Str} {sp : aSp} {x m : Str} {p : Pos} {E0' : XK}
theorem de_call (F : FnOk X.prog X.w X.K X.mg X.base CX k g fd ps (lift X.K n sp)) (hr : Room k X.A) (hg : Gl X x) (hm : X.mg x = some (.ref g)) (hk : PySem.W.keepIn X.K (.ref g) = true) (hb : Binds X.K fd ps []) (hx : Passes CX X E0')
    (ha : DA X (e :: es) t at1) (hdb : (x == ("__debug__" : Str)) = false := by decide) (he : starEach (e :: es) X.env = (false, eval e X.env) :: starEach es X.env := by rfl) (hpl : (backTo pos (starEach es X.env)).any (·.1) = false := by rfl) :
    DE X (.Call (.Name x p) (e :: es) [] pos) (tCall (lift X.K n sp) [] E0' t) (aCall n sp at1) := ⟨pe_call F hr hg hm hk hb .nil hx ha.pa hdb he hpl, se_call ha.sa⟩
theorem de_call0 (F : FnOk X.prog X.w X.K X.mg X.base CX k g fd ps (lift X.K n sp)) (hr : Room k X.A) (hg : Gl X x) (hm : X.mg x = some (.ref g)) (hk : PySem.W.keepIn X.K (.ref g) = true) (hb : Binds X.K fd ps []) (hx : Passes CX X E0')
    (hdb : (x == ("__debug__" : Str)) = false := by decide) : DE X (.Call (.Name x p) [] [] pos) (tCall (lift X.K n sp) [] E0' tNil) (aCall n sp aNil) := ⟨pe_call0 F hr hg hm hk hb .nil hx hdb, se_call sa_nil⟩
/-- keywords: gD puts the values in the parameters' order -/
def aCallK (n : Nat) (sp : aSp) (gD : List D → List D → List D) (x y : aA) : aE := fun G M Q => x G M fun ds M1 => y G M1 fun es M2 => (gD ds es).length = n ∧ sp (gD ds es) M2 Q
structure DK (X : Cx) (kws : List Keyword) (ta : TA) (aa : aA) : Prop where
  pk : PK X kws ta
  sa : SA X.K ta aa
theorem dk_nil : DK X [] tNil aNil := ⟨pk_nil, sa_nil⟩
theorem dk_cons {kws : List Keyword} {nm : Option Str} {kpos : Pos} (ha : DE X e te ae) (hr : DK X kws t at1) : DK X (⟨nm, e, kpos⟩ :: kws) (tCons te t) (aCons ae at1) := ⟨pk_cons ha.pe hr.pk, sa_cons ha.se hr.sa⟩
theorem de_callK {ks : List Str} {kws : List Keyword} {tk : TA} {ak : aA} {gV' : List Value → List Value → List Value} {gV : List V → List V → List V} {gD : List D → List D → List D}
    (hgd : ∀ (N : Hp) vs ds ws es, RelL X.K N vs ds → RelL X.K N ws es → RelL X.K N (gV vs ws) (gD ds es))
    (F : FnOk X.prog X.w X.K X.mg X.base CX k g fd ps (lift X.K n sp)) (hr : Room k X.A) (hg : Gl X x) (hm : X.mg x = some (.ref g)) (hk : PySem.W.keepIn X.K (.ref g) = true) (hb : KBinds X.K fd ps ks gV' gV) (hx : Passes CX X E0')
    (ha : DA X (e :: es) t at1) (hkw : DK X kws tk ak) (hall : (backToKw pos (keywordEach kws X.env)).all (·.1.isSome) = true := by rfl) (hks : (backToKw pos (keywordEach kws X.env)).filterMap (·.1) = ks := by rfl)
    (hdb : (x == ("__debug__" : Str)) = false := by decide) (he : starEach (e :: es) X.env = (false, eval e X.env) :: starEach es X.env := by rfl)
    (hpl : ((backTo pos (starEach (e :: es) X.env)).any (·.1) || (backToKw pos (keywordEach kws X.env)).any (·.1.isNone)) = false := by rfl) :
    DE X (.Call (.Name x p) (e :: es) kws pos) (tCallK (lift X.K n sp) gV E0' t tk) (aCallK n sp gD at1 ak) := ⟨pe_callK F hr hg hm hk hb hx ha.pa hkw.pk hall hks hdb he hpl, by
  intro E G M N σ H C Q Qc q k
  refine ha.sa E G M N σ H C _ _ q fun ds vs M1 N1 H1 h1 C1 s1 r1 => ?_
  refine hkw.sa E G M1 N1 σ H1 C1 _ _ h1 fun es ws M2 N2 H2 h2 C2 s2 r2 => ?_
  exact ⟨gD ds es, M2, N2, Q, h2.1, C2.cm, hgd _ _ _ _ _ (r1.mono s2) r2, h2.2, fun d v M' N' H' q' fr cm r => (k.from (s1.trans s2)) d v M' N' H' q' (C2.step fr cm) fr.nn r⟩⟩
/-- o.m(..) of an instance of the class at C -/
def aMeth (C : Addr) (m : Str) (n : Nat) (sp : aSp) (x : aE) (y : aA) : aE := fun G M Q => x G M fun d M1 => (match d with
  | .obj C' gs => C' = C ∧ gs.lookup m = none
  | .ref p => (match M1 p with | some (.ins C' gs) => C' = C ∧ gs.lookup m = none | _ => False)
  | _ => False) ∧ y G M1 fun ds M2 => ds.length + 1 = n ∧ sp (d :: ds) M2 Q
theorem se_meth (hta : SE K ta aa) (h : SA K t at1) : SE K (tMeth C m (lift K n sp) [] E0' ta t) (aMeth C m n sp aa at1) := by
  intro E G M N σ H CC' Q Qc q k
  refine hta E G M N σ H CC' _ _ q fun d v M1 N1 H1 h1 C1 s1 r1 => ?_
  have go : ∃ a dx fs, v = .ref a ∧ H1 a = some (.ins C dx fs) ∧ fs.lookup m = none := by
    have h0 := h1.1
    split at h0
    · obtain ⟨p, dx, fs, rfl, ho, r2⟩ := rel_obj r1
      obtain ⟨rfl, h0⟩ := h0
      exact ⟨p, dx, fs, rfl, C1.cm.sm _ _ ho, r2.lookup_none h0⟩
    · have e := rel_ref r1
      subst e
      split at h0
      · rename_i e
        obtain ⟨dx, fs, ho, r2⟩ := C1.cm.inst e
        obtain ⟨rfl, h0⟩ := h0
        exact ⟨_, dx, fs, rfl, ho, r2.lookup_none h0⟩
      · exact h0.elim
    · exact h0.elim
  obtain ⟨a, dx, fs, rfl, ho, hl⟩ := go
  refine ⟨a, dx, fs, rfl, ho, hl, ?_⟩
  refine h E G M1 N1 σ H1 C1 _ _ h1.2 fun ds vs M2 N2 H2 h2 C2 s2 r2 => ?_
  rw [List.append_nil]
  exact ⟨d :: ds, M2, N2, Q, by rw [List.length_cons]; exact h2.1, C2.cm, .cons (r1.mono s2) r2, h2.2, fun d v M' N' H' q' fr cm r => (k.from (s1.trans s2)) d v M' N' H' q' (C2.step fr cm) fr.nn r⟩
theorem de_meth {pl : Sem Bool} (he : DE X o ta aa) (c : Cls X.K C) (hm : Meth X.K C m g) (F : FnOk X.prog X.w X.K X.mg X.base CX k g fd ps (lift X.K n sp)) (hr : Room k X.A) (hb : Binds X.K fd ps []) (hx : Passes CX X E0') (ha : DA X (e :: es) t at1)
    (hst : starEach (e :: es) X.env = (false, eval e X.env) :: starEach es X.env := by rfl) (hpl : (backTo pos (starEach es X.env)).any (·.1) = false := by rfl)
    (ht : eval (.Call (.Attribute o m apos) (e :: es) [] pos) X.env = (do
      let ov ← eval o X.env
      standAt apos.atName
      let (f, first) ← holding [ov] (getMethod ov m pl)
      callWith pos f first (backTo pos (starEach (e :: es) X.env)) (backToKw pos (keywordEach [] X.env))) := by rfl) :
    DE X (.Call (.Attribute o m apos) (e :: es) [] pos) (tMeth C m (lift X.K n sp) [] E0' ta t) (aMeth C m n sp aa at1) := ⟨pe_meth he.pe c hm F hr hb .nil hx ha.pa hst hpl ht, se_meth he.se ha.sa⟩
theorem de_meth0 {pl : Sem Bool} (he : DE X o ta aa) (c : Cls X.K C) (hm : Meth X.K C m g) (F : FnOk X.prog X.w X.K X.mg X.base CX k g fd ps (lift X.K n sp)) (hr : Room k X.A) (hb : Binds X.K fd ps []) (hx : Passes CX X E0')
    (ht : eval (.Call (.Attribute o m apos) [] [] pos) X.env = (do
      let ov ← eval o X.env
      standAt apos.atName
      let (f, first) ← holding [ov] (getMethod ov m pl)
      callWith pos f first (backTo pos (starEach [] X.env)) (backToKw pos (keywordEach [] X.env))) := by rfl) :
    DE X (.Call (.Attribute o m apos) [] [] pos) (tMeth C m (lift X.K n sp) [] E0' ta tNil) (aMeth C m n sp aa aNil) := ⟨pe_meth0 he.pe c hm F hr hb .nil hx ht, se_meth he.se sa_nil⟩
/-- C(..): an instance that stands still behind its __init__ -/
def aMake (C : Addr) (n : Nat) (sp : aSp) (y : aA) : aE := fun G M Q => y G M fun ds M1 => ds.length + 1 = n ∧ ∀ x, M1 x = none →
  sp (.ref x :: ds) (mupd M1 x (.ins C [])) fun r M2 => r = .non ∧ ∃ gs, M2 x = some (.ins C gs) ∧ Q (.obj C gs) (mdel M2 x)
/-- .. that may change -/
def aMakeM (C : Addr) (n : Nat) (sp : aSp) (y : aA) : aE := fun G M Q => y G M fun ds M1 => ds.length + 1 = n ∧ ∀ x, M1 x = none →
  sp (.ref x :: ds) (mupd M1 x (.ins C [])) fun r M2 => r = .non ∧ Q (.ref x) M2
/-- an object of ours stands still from now on -/
theorem CC.freeze {E : En} {G : Gm} {M : Mp} {N H : Hp} {σ : L2.St} {a : Addr} {o : HO} (c : CC K E G M N σ H) (hN : N a = none) (ha : H a = some o) (h0 : E.H a = none) : CC K E G (mdel M a) (upd N a o) σ H where
  fr := ⟨c.fr.nn.trans (same_new hN), fun b u e m => by
    obtain ⟨h1, h2⟩ := c.fr.keep b u e m
    refine ⟨h1, ?_⟩
    unfold mdel
    split
    · rfl
    · exact h2, fun b u e n => by
    have q : b ≠ a := ne_of_none e h0
    rw [upd_ne q]
    exact c.fr.new b u e n, c.fr.dom⟩
  cm := ⟨fun b u e => by
    by_cases q : b = a
    · subst q; rw [upd_same] at e; cases e; exact ha
    · rw [upd_ne q] at e; exact c.cm.sm _ _ e, fun b x e => by
    by_cases q : b = a
    · subst q; unfold mdel at e; rw [if_pos rfl] at e; cases e
    · unfold mdel at e
      rw [if_neg q] at e
      obtain ⟨h1, h2⟩ := c.cm.hm b x e
      exact ⟨by rw [upd_ne q]; exact h1, h2.mono (same_new hN) fun _ e => e⟩⟩
  sl := c.sl.mono (same_new hN)
theorem se_make (h : SA K t at1) : SE K (tMake C (lift K n sp) [] E0' t) (aMake C n sp at1) := by
  intro E G M N σ H CC' Q Qc q k
  refine h E G M N σ H CC' _ _ q fun ds vs M1 N1 H1 h1 C1 s1 r1 => ?_
  intro x dx hx hdx hne
  rw [List.append_nil]
  obtain ⟨hN, hM⟩ := C1.cm.none hx
  -- the own dict is not known; the instance may change
  have c2 : CM K (mupd M1 x (.ins C [])) N1 (upd (upd H1 dx (.own x)) x (.ins C dx [])) := by
    refine cm_put (M := M1) (N := N1) (H := upd H1 dx (.own x)) ?_ hN (hasI upd_same .nil)
    exact ⟨fun a u e => by rw [upd_ne (ne_of_none (C1.cm.sm _ _ e) hdx)]; exact C1.cm.sm _ _ e, fun a c e => by
      obtain ⟨h2, h3⟩ := C1.cm.hm a c e
      exact ⟨h2, h3.mono (Same.refl _) fun o e => by rw [upd_ne (ne_of_none e hdx)]; exact e⟩⟩
  have f2 : Fr M1 N1 H1 (mupd M1 x (.ins C [])) N1 (upd (upd H1 dx (.own x)) x (.ins C dx [])) := by
    refine ⟨Same.refl _, fun a u e m => ?_, fun a u e n => n, fun a u e => ?_⟩
    · have q1 : a ≠ x := ne_of_none e hx
      have q2 : a ≠ dx := ne_of_none e hdx
      exact ⟨by rw [upd_ne q1, upd_ne q2]; exact e, by rw [mupd_ne q1]; exact m⟩
    · have q1 : a ≠ x := ne_of_none e hx
      have q2 : a ≠ dx := ne_of_none e hdx
      exact ⟨u, by rw [upd_ne q1, upd_ne q2]; exact e⟩
  refine ⟨.ref x :: ds, _, N1, _, by rw [List.length_cons]; exact h1.1, c2, .cons (.ref x) r1, h1.2 x hM, ?_⟩
  intro d v M' N' H' q' fr cm r
  obtain ⟨rfl, gs, e, q'⟩ := q'
  cases r
  refine ⟨rfl, ?_⟩
  have C3 : CC K E G M' N' σ H' := C1.step (f2.trans fr) cm
  obtain ⟨hn, dx', fs, ho, rf⟩ := cm.hm x _ e
  have h0 : E.H x = none := by
    cases w : E.H x with
    | none => rfl
    | some o =>
      obtain ⟨o', e'⟩ := C1.fr.dom x o w
      rw [e'] at hx; cases hx
  have C4 := C3.freeze hn ho h0
  exact (k.from (s1.trans (fr.nn.trans (same_new hn)))).at C4 q' (.obj upd_same (rf.mono (same_new hn)))
theorem de_make (M : Mk X.K C g) (F : FnOk X.prog X.w X.K X.mg X.base CX k g fd ps (lift X.K n sp)) (hr : Room (k + 1) X.A) (hg : Gl X x) (hm : X.mg x = some (.ref C)) (hb : Binds X.K fd ps []) (hx : Passes CX X E0')
    (ha : DA X (e :: es) t at1) (hdb : (x == ("__debug__" : Str)) = false := by decide) (he : starEach (e :: es) X.env = (false, eval e X.env) :: starEach es X.env := by rfl) (hpl : (backTo pos (starEach es X.env)).any (·.1) = false := by rfl) :
    DE X (.Call (.Name x p) (e :: es) [] pos) (tMake C (lift X.K n sp) [] E0' t) (aMake C n sp at1) := ⟨pe_make M F hr hg hm hb .nil hx ha.pa hdb he hpl, se_make ha.sa⟩
end
end DL

set_option Elab.async false
set_option linter.all false
set_option maxRecDepth 100000
namespace DL
open PySem PySem.Spec PyProof.Rows L2
section
variable {X : Cx} {K : PySem.W.Frag} {e a b c o i : Expr} {es : List Expr} {te ta tb tc to ti : TE} {t : TA} {ae aa ab ac ao ai : aE} {at1 : aA} {pos : Pos} {st : Stmt} {rest : List Stmt} {ts tu : TS} {as au : aS}
/-! ### blocks -/
def asNext : aS := fun A G M => A.nx G M
/-- what is known may be told in another way -/
def Cvt (m0 : Mp) (G : Gm) (M : Mp) (G' : Gm) (M' : Mp) : Prop := ∀ K E N σ H, E.M = m0 → CC K E G M N σ H → ∃ N', CC K E G' M' N' σ H ∧ Same N N'
theorem Cvt.refl {m0 : Mp} {G : Gm} {M : Mp} : Cvt m0 G M G M := fun K E N σ H e C => ⟨N, C, Same.refl N⟩
theorem Cvt.trans {m0 : Mp} {G G1 G2 : Gm} {M M1 M2 : Mp} (h : Cvt m0 G M G1 M1) (h' : Cvt m0 G1 M1 G2 M2) : Cvt m0 G M G2 M2 := fun K E N σ H e C => by
  obtain ⟨N1, C1, s1⟩ := h K E N σ H e C
  obtain ⟨N2, C2, s2⟩ := h' K E N1 σ H e C1
  exact ⟨N2, C2, s1.trans s2⟩
def cvU (u : aS) : aS := fun A G M => ∃ G' M', Cvt A.m0 G M G' M' ∧ u A G' M'
def asSeq (t u : aS) : aS := fun A G M => t { A with nx := cvU u A } G M
theorem ss_next : SS K tNext asNext := fun E G M N σ H C A B m0 q k => k.nx G M N σ H q C (Same.refl N)
theorem ss_seq (h : SS K ts as) (h2 : SS K tu au) : SS K (tSeq ts tu) (asSeq as au) := by
  intro E G M N σ H C A B m0 q k
  refine h E G M N σ H C { A with nx := cvU au A } { B with nx := tu B } m0 q ⟨fun G' M' N' σ' H' ⟨G2, M2, cv, q'⟩ C' s' => ?_, k.rt, k.bk, k.ct⟩
  obtain ⟨N2, C2, s2⟩ := cv K E N' σ' H' m0.symm C'
  exact h2 E G2 M2 N2 σ' H' C2 A B m0 q' (k.from (s'.trans s2))
theorem dss_nil : DSs X [] tNext asNext := ⟨pss_nil, ss_next⟩
theorem dss_cons (h1 : DS X st ts as) (h2 : DSs X rest tu au) : DSs X (st :: rest) (tSeq ts tu) (asSeq as au) := ⟨pss_cons h1.ps h2.ps, ss_seq h1.ss h2.ss⟩
theorem dss_one (h1 : DS X st ts as) : DSs X [st] ts as := ⟨pss_one h1.ps, h1.ss⟩
def asBreak : aS := fun A G M => A.bk G M
def asCont : aS := fun A G M => A.ct G M
theorem ds_pass : DS X (.Pass pos) tNext asNext := ⟨ps_pass, ss_next⟩
theorem ds_break : DS X (.Break pos) tBreak asBreak := ⟨ps_break, fun E G M N σ H C A B m0 q k => k.bk G M N σ H q C (Same.refl N)⟩
theorem ds_continue : DS X (.Continue pos) tCont asCont := ⟨ps_continue, fun E G M N σ H C A B m0 q k => k.ct G M N σ H q C (Same.refl N)⟩
def asDrop (x : aE) : aS := fun A G M => x G M fun _ M1 => A.nx G M1
theorem ds_expr (he : DE X e te ae) (hs : swapsWith e none pos.line X.env = pure false := by rfl) : DS X (.Expr e pos) (tDrop te) (asDrop ae) := ⟨ps_expr he.pe hs, by
  intro E G M N σ H C A B m0 q k
  exact he.se E G M N σ H C _ _ q fun d v M' N' H' q' C' s' r' => k.nx G M' N' σ H' q' C' s'⟩
def asRet (x : aE) : aS := fun A G M => x G M A.rt
theorem ds_ret (he : DE X e te ae) : DS X (.Return (some e) pos) (tRet te) (asRet ae) := ⟨ps_ret he.pe, by
  intro E G M N σ H C A B m0 q k
  exact he.se E G M N σ H C _ _ q fun d v M' N' H' q' C' s' r' => k.rt d v G M' N' σ H' q' C' s' r'⟩
def asRetN : aS := fun A _ M => A.rt .non M
theorem ds_retN : DS X (.Return none pos) tRetN asRetN := ⟨ps_retN, fun E G M N σ H C A B m0 q k => k.rt .non .non G M N σ H q C (Same.refl N) .non⟩
variable {tt : TT} {aT' : aT} {s1' s2' : List Stmt} {u1 u2 : TS} {w1 w2 : aS}
def asIf (c : aT) (t u : aS) : aS := fun A G M => c G M fun b M1 => if b = true then t A G M1 else u A G M1
theorem ds_if (hc : DT X c tt aT') (ha : DSs X s1' u1 w1) (hb : DSs X s2' u2 w2) : DS X (.If c s1' s2' pos) (tIfS tt u1 u2) (asIf aT' w1 w2) := ⟨ps_if hc.pt ha.ps hb.ps, by
  intro E G M N σ H C A B m0 q k
  refine hc.st E G M N σ H C _ _ q fun b M1 N1 H1 h1 C1 s1 => ?_
  cases b with
  | true =>
    rw [if_pos rfl] at h1 ⊢
    exact ha.ss E G M1 N1 σ H1 C1 A B m0 h1 (k.from s1)
  | false =>
    rw [if_neg Bool.false_ne_true] at h1 ⊢
    exact hb.ss E G M1 N1 σ H1 C1 A B m0 h1 (k.from s1)⟩
/-- a statement that the proof never comes to -/
theorem ds_never : DS X st tNever (fun _ _ _ => False) := ⟨ps_never, fun E G M N σ H C A B m0 q k => q⟩

/-! ### targets -/
abbrev aG := D → Gm → Mp → (Gm → Mp → Prop) → Prop
abbrev aGs := List D → Gm → Mp → (Gm → Mp → Prop) → Prop
def CoG (K : PySem.W.Frag) (E : En) (N : Hp) (Q : Gm → Mp → Prop) (Qc : L2.St → Hp → Prop) : Prop := ∀ G' M' N' σ' H', Q G' M' → CC K E G' M' N' σ' H' → Same N N' → Qc σ' H'
def SG (K : PySem.W.Frag) (g : TG) (ag : aG) : Prop := ∀ E G M N σ H, CC K E G M N σ H → ∀ v d, RelD K N v d → ∀ Q Qc, ag d G M Q → CoG K E N Q Qc → g v σ H Qc
def SGs (K : PySem.W.Frag) (g : TGs) (ag : aGs) : Prop := ∀ E G M N σ H, CC K E G M N σ H → ∀ vs ds, RelL K N vs ds → ∀ Q Qc, ag ds G M Q → CoG K E N Q Qc → g vs σ H Qc
structure DG (X : Cx) (tg : Expr) (g : TG) (ag : aG) : Prop where
  pg : PG X tg g
  sg : SG X.K g ag
structure DGs (X : Cx) (tgs : List Expr) (g : TGs) (ag : aGs) : Prop where
  pg : PGs X tgs g
  sg : SGs X.K g ag
theorem CoG.from {E : En} {N N' : Hp} {Q : Gm → Mp → Prop} {Qc : L2.St → Hp → Prop} (k : CoG K E N Q Qc) (s : Same N N') : CoG K E N' Q Qc := fun g m n t h q c s1 => k g m n t h q c (s.trans s1)
def agName (j : Nat) : aG := fun d G M Q => Q (G.set j (some d)) M
theorem sg_name {j : Nat} : SG K (gName j) (agName j) := by
  intro E G M N σ H C v d r Q Qc q k
  exact k _ M N _ H q (C.slots (C.sl.set r)) (Same.refl N)
theorem dg_name {j : Nat} {x : Str} (hN : X.N.Nodup) (hi : X.N[j]? = some x) (hx : Loc X.env.scope x) (hf : X.fn x = true ∨ X.env.scope.names.lookup x = some .local := by first | exact .inl rfl | exact .inr rfl | assumption) : DG X (.Name x pos) (gName j) (agName j) := ⟨pg_name hN hi hx hf, sg_name⟩
def agNil : aGs := fun ds G M Q => ds = [] ∧ Q G M
def agCons (g : aG) (r : aGs) : aGs := fun ds G M Q => match ds with
  | d :: ds => g d G M fun G' M' => r ds G' M' Q
  | [] => False
variable {tg : Expr} {tgs : List Expr} {g : TG} {gs : TGs} {ag : aG} {ags : aGs}
theorem dgs_nil : DGs X [] gNil agNil := ⟨pgs_nil, by
  intro E G M N σ H C vs ds r Q Qc q k
  obtain ⟨rfl, q⟩ := q
  cases r
  exact ⟨rfl, k G M N σ H q C (Same.refl N)⟩⟩
theorem dgs_cons (h1 : DG X tg g ag) (h2 : DGs X tgs gs ags) (hs : (assignEach (tg :: tgs) X.env).map (·.2) = assign tg X.env :: (assignEach tgs X.env).map (·.2) := by rfl) : DGs X (tg :: tgs) (gCons g gs) (agCons ag ags) := ⟨pgs_cons h1.pg h2.pg hs, by
  intro E G M N σ H C vs ds r Q Qc q k
  cases r with
  | nil => exact q.elim
  | cons hd hr =>
    refine ⟨_, _, rfl, ?_⟩
    refine h1.sg E G M N σ H C _ _ hd _ _ q fun G' M' N' σ' H' q' C' s' => ?_
    exact h2.sg E G' M' N' σ' H' C' _ _ (hr.mono s') Q Qc q' (k.from s')⟩
def agTup (n : Nat) (r : aGs) : aG := fun d G M Q => match d with
  | .tup ds => ds.length = n ∧ r ds G M Q
  | .rot ds => ds.length = n ∧ r ds G M Q
  | _ => False
theorem dg_tup {k n : Nat} (h : DGs X tgs gs ags) (hc : X.calm = true := by rfl) (hn : (assignEach tgs X.env).length = n := by rfl) (hst : (assignEach tgs X.env).findIdx? (·.1) = none := by rfl) : DG X (.Tuple tgs k pos) (gTup X.K n gs) (agTup n ags) := ⟨pg_tup hc h.pg hn hst, by
  intro E G M N σ H C v d r Q Qc q k
  unfold agTup at q
  split at q
  · cases r with | tup h1 r1 =>
    exact ⟨_, _, rfl, .of (C.cm.sm _ _ h1), by rw [r1.length]; exact q.1, h.sg E G M N σ H C _ _ r1 Q Qc q.2 k⟩
  · cases r with | rot h1 r1 =>
    exact ⟨_, _, rfl, same_seqT C.cm.sm h1, by rw [r1.length]; exact q.1, h.sg E G M N σ H C _ _ r1 Q Qc q.2 k⟩
  · exact q.elim⟩
/-- xs[i] = v of a list that may change -/
def agSubL (o i : aE) : aG := fun d G M Q => o G M fun x M1 => i G M1 fun y M2 => match x, y with
  | .ref p, .int z => (match M2 p with
    | some (.lst ds) => (match ixN ds.length z with | some j => Q G (mupd M2 p (.lst (ds.set j d))) | none => False)
    | _ => False)
  | _, _ => False
theorem dg_subL (ho : DE X o to ao) (hi : DE X i ti ai) (ha : ∀ v, assign (.Subscript o i pos) X.env v = (do
      let ov ← holding [v] (eval o X.env)
      let iv ← holding [v, ov] (eval i X.env)
      standAt pos
      holding [v, ov, iv] (setItem ov iv v)
      release [v, ov, iv] []) := by intro _; rfl) : DG X (.Subscript o i pos) (gSub to ti rSetL) (agSubL ao ai) := ⟨pg_sub ho.pe hi.pe set_list ha, by
  intro E G M N σ H C v d r Q Qc q k
  refine ho.se E G M N σ H C _ _ q fun x xv M1 N1 H1 h1 C1 s1 r1 => ?_
  refine hi.se E G M1 N1 σ H1 C1 _ _ h1 fun y yv M2 N2 H2 h2 C2 s2 r2 => ?_
  split at h2
  · have e1 := rel_ref (r1.mono s2)
    subst e1
    cases r2
    split at h2
    · rename_i ds e
      obtain ⟨xs, h3, r3⟩ := C2.cm.lst e
      split at h2
      · rename_i j hj
        refine ⟨_, xs, _, j, rfl, rfl, h3, by rw [r3.length]; exact hj, ?_⟩
        exact k _ _ N2 σ _ h2 (C2.mut e (hasL upd_same (r3.set ((r.mono s1).mono s2) j))) (s1.trans s2)
      · exact h2.elim
    · exact h2.elim
  · exact h2.elim⟩

/-! ### assignments -/
def asAsg (x : aE) (g : aG) : aS := fun A G M => x G M fun d M1 => g d G M1 A.nx
theorem ss_asg (he : SE K te ae) (hg : SG K g ag) : SS K (tAsg te g) (asAsg ae ag) := by
  intro E G M N σ H C A B m0 q k
  refine he E G M N σ H C _ _ q fun d v M1 N1 H1 h1 C1 s1 r1 => ?_
  exact hg E G M1 N1 σ H1 C1 v d r1 _ _ h1 fun G' M' N' σ' H' q' C' s' => k.nx G' M' N' σ' H' q' C' (s1.trans s')
theorem ds_asg (he : DE X e te ae) (hg : DG X tg g ag) (hs : swapsWithSole [tg] e pos.line X.env = pure false := by rfl) (hw : swappedStores [tg] e X.env = pure none := by rfl)
    (h1 : (assignEach [tg] X.env).map (·.2) = [assign tg X.env] := by rfl) : DS X (.Assign [tg] e pos) (tAsg te g) (asAsg ae ag) := ⟨ps_asg he.pe hg.pg hs hw h1, ss_asg he.se hg.sg⟩
theorem ds_set {j : Nat} {x : Str} {pos' : Pos} (hN : X.N.Nodup) (hi : X.N[j]? = some x) (hx : Loc X.env.scope x) (he : DE X e te ae) (hs : swapsWith e (some (.Name x pos')) pos.line X.env = pure false := by rfl) (hf : X.fn x = true ∨ X.env.scope.names.lookup x = some .local := by first | exact .inl rfl | exact .inr rfl | assumption) :
    DS X (.Assign [.Name x pos'] e pos) (tAsg te (gName j)) (asAsg ae (agName j)) := ⟨ps_set hN hi hx he.pe hs hf, ss_asg he.se sg_name⟩
/-- a, b = x, y with plain local names -/
def asPar (i j : Nat) (x : aA) : aS := fun A G M => x G M fun ds M1 => match ds with
  | [d, e] => A.nx ((G.set i (some d)).set j (some e)) M1
  | _ => False
theorem ds_par {i j : Nat} {x y : Str} {a b : Expr} {px py pt : Pos} {kt k2 pt2} (hN : X.N.Nodup) (hi : X.N[i]? = some x) (hj : X.N[j]? = some y) (ha : DA X [a, b] t at1) (hij : i ≠ j := by decide)
    (hx : X.env.scope.names.lookup x = some .local := by rfl) (hy : X.env.scope.names.lookup y = some .local := by rfl) (hc : X.calm = true := by rfl)
    (hw : swappedStores [.Tuple [.Name x px, .Name y py] kt pt] (.Tuple [a, b] k2 pt2) X.env = pure (some [x, y]) := by rfl)
    (hs : swapsWithSole [.Tuple [.Name x px, .Name y py] kt pt] (.Tuple [a, b] k2 pt2) pos.line X.env = pure false := by rfl) :
    DS X (.Assign [.Tuple [.Name x px, .Name y py] kt pt] (.Tuple [a, b] k2 pt2) pos) (tPar i j t) (asPar i j at1) := ⟨ps_par hc hN hi hj hij hx hy ha.pa hw hs, by
  intro E G M N σ H C A B m0 q k
  refine ha.sa E G M N σ H C _ _ q fun ds vs M1 N1 H1 h1 C1 s1 r1 => ?_
  split at h1
  · obtain ⟨v, w, rfl, r2, r3⟩ := rel2 r1
    exact ⟨v, w, rfl, k.nx _ M1 N1 _ H1 h1 (C1.slots ((C1.sl.set r2).set r3)) s1⟩
  · exact h1.elim⟩
theorem rel3 {N : Hp} {vs : List V} {d e f : D} (r : RelL K N vs [d, e, f]) : ∃ u v w, vs = [u, v, w] ∧ RelD K N u d ∧ RelD K N v e ∧ RelD K N w f := by
  cases r with | cons h r => cases r with | cons h2 r => cases r with | cons h3 r => cases r; exact ⟨_, _, _, rfl, h, h2, h3⟩
def asPar3 (i j l : Nat) (x : aA) : aS := fun A G M => x G M fun ds M1 => match ds with
  | [d, e, f] => A.nx (((G.set i (some d)).set j (some e)).set l (some f)) M1
  | _ => False
theorem ds_par3 {i j l : Nat} {x y z : Str} {a b c : Expr} {px py pz pt : Pos} {kt k2 pt2} (hN : X.N.Nodup) (hi : X.N[i]? = some x) (hj : X.N[j]? = some y) (hl : X.N[l]? = some z) (ha : DA X [a, b, c] t at1) (hij : i ≠ j := by decide) (hil : i ≠ l := by decide) (hjl : j ≠ l := by decide)
    (hx : X.env.scope.names.lookup x = some .local := by rfl) (hy : X.env.scope.names.lookup y = some .local := by rfl) (hz : X.env.scope.names.lookup z = some .local := by rfl) (hc : X.calm = true := by rfl)
    (hw : swappedStores [.Tuple [.Name x px, .Name y py, .Name z pz] kt pt] (.Tuple [a, b, c] k2 pt2) X.env = pure (some [x, y, z]) := by rfl)
    (hs : swapsWithSole [.Tuple [.Name x px, .Name y py, .Name z pz] kt pt] (.Tuple [a, b, c] k2 pt2) pos.line X.env = pure false := by rfl) :
    DS X (.Assign [.Tuple [.Name x px, .Name y py, .Name z pz] kt pt] (.Tuple [a, b, c] k2 pt2) pos) (tPar3 i j l t) (asPar3 i j l at1) := ⟨ps_par3 hc hN hi hj hl hij hil hjl hx hy hz ha.pa hw hs, by
  intro E G M N σ H C A B m0 q k
  refine ha.sa E G M N σ H C _ _ q fun ds vs M1 N1 H1 h1 C1 s1 r1 => ?_
  split at h1
  · obtain ⟨u, v, w, rfl, r2, r3, r4⟩ := rel3 r1
    exact ⟨u, v, w, rfl, k.nx _ M1 N1 _ H1 h1 (C1.slots (((C1.sl.set r2).set r3).set r4)) s1⟩
  · exact h1.elim⟩
/-- x += e, x -= e (ints), at a name -/
def asAug (j : Nat) (x : aE) (f : V2) : aS := fun A G M => match G[j]? with
  | some (some d) => x G M fun e M1 => f d e M1 fun z M2 => A.nx (G.set j (some z)) M2
  | _ => False
theorem ds_aug {j : Nat} {x : Str} {op : Operator} {r : R2} {f : V2} {pos' : Pos} (ho : OpR X (inplaceOp op) r) (hs : S2 X.K r f) (hN : X.N.Nodup) (hi : X.N[j]? = some x) (hx : Loc X.env.scope x) (he : DE X e te ae) (hf : X.fn x = true ∨ X.env.scope.names.lookup x = some .local := by first | exact .inl rfl | exact .inr rfl | assumption) :
    DS X (.AugAssign (.Name x pos') op e pos) (tAug j te r) (asAug j ae f) := ⟨ps_aug hN hi hx he.pe ho hf, by
  intro E G M N σ H C A B m0 q k
  unfold asAug at q
  split at q
  · rename_i d hd
    obtain ⟨v, h1, r1⟩ := C.sl.2 j d hd
    refine ⟨v, h1, ?_⟩
    refine he.se E G M N σ H C _ _ q fun d' v' M1 N1 H1 h1 C1 s1 r2 => ?_
    refine hs E G M1 N1 σ H1 C1 v v' _ _ (r1.mono s1) r2 _ _ h1 fun z w M2 N2 H2 h2 C2 s2 r3 => ?_
    exact k.nx _ M2 N2 _ H2 h2 (C2.slots (C2.sl.set r3)) (s1.trans s2)
  · exact q.elim⟩
/-- o.f = e of an instance that may change -/
def asFld (K : PySem.W.Frag) (x v : aE) (f : Str) : aS := fun A G M => v G M fun y M1 => x G M1 fun d M2 => match d with
  | .ref p => (match M2 p with
    | some (.ins C gs) => Cls K C ∧ NoAttr K C f ∧ gs.length < 1000 ∧ A.nx G (mupd M2 p (.ins C (putG f y gs)))
    | _ => False)
  | _ => False
where putG (f : Str) (v : D) : List (Str × D) → List (Str × D)
  | [] => [(f, v)]
  | (g, x) :: r => if g = f then (g, v) :: r else (g, x) :: putG f v r
theorem putG_rel {N : Hp} {f : Str} {v : V} {d : D} (h : RelD K N v d) : ∀ {xs : List (Str × V)} {gs : List (Str × D)}, RelF K N xs gs → RelF K N (putF f v xs) (asFld.putG f d gs)
  | _, _, .nil => .cons h .nil
  | _, _, .cons (x := g) h1 r => by
    unfold putF asFld.putG
    by_cases q : g = f
    · rw [if_pos q, if_pos q]; exact .cons h r
    · rw [if_neg q, if_neg q]; exact .cons h1 (putG_rel h r)
theorem ds_fld {f : Str} {pos' : Pos} {tv : TE} {av : aE} {value : Expr} (ha : DE X o ta aa) (hv : DE X value tv av) (hs : swapsWith value (some (.Attribute o f pos')) pos.line X.env = pure false := by rfl) : DS X (.Assign [.Attribute o f pos'] value pos) (sFld X.K ta tv f) (asFld X.K aa av f) := ⟨ps_fld ha.pe hv.pe hs, by
  intro E G M N σ H C A B m0 q k
  refine hv.se E G M N σ H C _ _ q fun y yv M1 N1 H1 h1 C1 s1 r1 => ?_
  refine ha.se E G M1 N1 σ H1 C1 _ _ h1 fun d v M2 N2 H2 h2 C2 s2 r2 => ?_
  split at h2
  · have e := rel_ref r2
    subst e
    split at h2
    · rename_i p _ Cc gs e
      obtain ⟨dx, fs, ho, rf⟩ := C2.cm.inst e
      obtain ⟨hc, hn, hl, h2⟩ := h2
      refine ⟨_, _, dx, fs, rfl, ho, hc, hn, by rw [rf.length]; exact hl, ?_⟩
      exact k.nx _ _ N2 _ _ h2 (C2.mut e (hasI upd_same (putG_rel (r1.mono s2) rf))) (s1.trans s2)
    · exact h2.elim
  · exact h2.elim⟩
/-- d[k] = v of a dict that may change -/
def putDk (M : Mp) (p : Addr) (key v : D) : Option MC := match M p with
  | some (.dK gs) => if gs.length < 1000000 then (keyOf key).map fun k => .dK (putD gs k v) else none
  | some (.dT gs) => if gs.length < 1000000 then (keyT key).map fun k => .dT (putD gs k v) else none
  | _ => none
def asDPut (d y v : aE) : aS := fun A G M => v G M fun v M1 => d G M1 fun d M2 => y G M2 fun k M3 => match d with
  | .ref p => (match putDk M3 p k v with | some c => A.nx G (mupd M3 p c) | none => False)
  | _ => False
theorem ds_dput {pos' : Pos} {td ty tv : TE} {ad ay av : aE} {value : Expr} (hu : X.A.units + 1 < cLine) (ho : DE X o td ad) (hi : DE X i ty ay) (hv : DE X value tv av) (hs : swapsWith value (some (.Subscript o i pos')) pos.line X.env = pure false := by rfl) :
    DS X (.Assign [.Subscript o i pos'] value pos) (sDPut td ty tv) (asDPut ad ay av) := ⟨ps_dput hu ho.pe hi.pe hv.pe hs, by
  intro E G M N σ H C A B m0 q k
  refine hv.se E G M N σ H C _ _ q fun z zv M1 N1 H1 h1 C1 s1 r1 => ?_
  refine ho.se E G M1 N1 σ H1 C1 _ _ h1 fun d v M2 N2 H2 h2 C2 s2 r2 => ?_
  refine hi.se E G M2 N2 σ H2 C2 _ _ h2 fun y yv M3 N3 H3 h3 C3 s3 r3 => ?_
  split at h3
  · have e := rel_ref (r2.mono s3)
    subst e
    split at h3
    · rename_i p _ c hc
      unfold putDk at hc
      split at hc
      · rename_i gs e
        split at hc
        · rename_i hl
          obtain ⟨kk, e1, rfl⟩ := Option.map_eq_some_iff.mp hc
          obtain ⟨kvs, hd, rf⟩ := C3.cm.dKs e
          have e3 := key_rel r3 e1
          subst e3
          refine ⟨_, _, rfl, .k hd (by rw [rf.length]; exact big_lt (Nat.le_of_lt hl)), ?_⟩
          exact k.nx _ _ N3 _ _ h3 (C3.mut e (hasK upd_same (rf.put kk ((r1.mono s2).mono s3)))) (s1.trans (s2.trans s3))
        · cases hc
      · rename_i gs e
        split at hc
        · rename_i hl
          obtain ⟨kk, e1, rfl⟩ := Option.map_eq_some_iff.mp hc
          obtain ⟨kvs, hd, rf⟩ := C3.cm.dTs e
          obtain ⟨b, rfl, hb⟩ := keyT_rel r3 e1
          refine ⟨_, _, rfl, .t hd (C3.cm.sm _ _ hb) (by rw [rf.length]; exact big_lt (Nat.le_of_lt hl)), ?_⟩
          exact k.nx _ _ N3 _ _ h3 (C3.mut e (hasT upd_same (rf.put kk ((r1.mono s2).mono s3)))) (s1.trans (s2.trans s3))
        · cases hc
      · cases hc
    · exact h3.elim
  · exact h3.elim⟩

/-! ### while -/
def asWhile (c : aT) (b : aS) : aS := fun A G M => ∃ W : Nat → Gm → Mp → Prop, (∃ m, W m G M) ∧ ∀ m G M, W m G M →
  c G M fun k M1 => if k = true then b { A with nx := fun G' M' => ∃ m', m' < m ∧ W m' G' M', ct := fun G' M' => ∃ m', m' < m ∧ W m' G' M', bk := A.nx } G M1 else A.nx G M1
theorem ds_while {body : List Stmt} (hc : DT X c tt aT') (hb : DSs X body u1 w1) (hp : PassesOwn (model X.prog X.w) X.A X.env X.xe) : DS X (.While c body [] pos) (tWhile tt u1) (asWhile aT' w1) := ⟨ps_while hp hc.pt hb.ps, by
  intro E G M N σ H C A B m0 q k
  obtain ⟨W, ⟨m, hm⟩, hW⟩ := q
  refine ⟨fun m σ H => ∃ G M N', CC X.K E G M N' σ H ∧ Same N N' ∧ W m G M, ⟨m, G, M, N, C, Same.refl N, hm⟩, ?_⟩
  rintro m σ H ⟨G, M, N', C', s', hw⟩
  refine hc.st E G M N' σ H C' _ _ (hW m G M hw) fun b M1 N1 H1 h1 C1 s1 => ?_
  cases b with
  | true =>
    rw [if_pos rfl] at h1 ⊢
    refine ⟨fun σ' H' => ∃ m', m' < m ∧ ∃ G M N', CC X.K E G M N' σ' H' ∧ Same N N' ∧ W m' G M, fun σ' H' h => h, ?_⟩
    refine hb.ss E G M1 N1 σ H1 C1 _ _ ?_ h1 ⟨?_, ?_, ?_, ?_⟩
    · exact m0
    · rintro G' M' N2 σ' H' ⟨m', l, w'⟩ C2 s2
      exact ⟨m', l, G', M', N2, C2, s'.trans (s1.trans s2), w'⟩
    · exact fun d v G' M' N2 σ' H' q' C2 s2 r2 => k.rt d v G' M' N2 σ' H' q' C2 (s'.trans (s1.trans s2)) r2
    · exact fun G' M' N2 σ' H' q' C2 s2 => k.nx G' M' N2 σ' H' q' C2 (s'.trans (s1.trans s2))
    · rintro G' M' N2 σ' H' ⟨m', l, w'⟩ C2 s2
      exact ⟨m', l, G', M', N2, C2, s'.trans (s1.trans s2), w'⟩
  | false =>
    rw [if_neg Bool.false_ne_true] at h1 ⊢
    exact k.nx G M1 N1 σ H1 h1 C1 (s'.trans s1)⟩

/-! ### what a loop walks -/
def Drv (K : PySem.W.Frag) (J : It) (ds : List D) (N1 : Hp) : Prop := ∀ E G M N σ H, CC K E G M N σ H → Same N1 N → ∀ i : Nat,
  (ds.length ≤ i → J.stop i H) ∧ ∀ d, ds[i]? = some d → J.go i H ∧ ∀ x H', J.yld i H x H' → ∃ N', Same N N' ∧ Fr M N H M N' H' ∧ CM K M N' H' ∧ RelD K N' x d
def SI (K : PySem.W.Frag) (wi : TI) (ai : aA) : Prop := ∀ E G M N σ H, CC K E G M N σ H → ∀ (Q : List D → Mp → Prop) (R : It → Hp → Prop), ai G M Q → (∀ ds M' N' H' J, Q ds M' → CC K E G M' N' σ H' → Same N N' → Drv K J ds N' → R J H') → wi σ H R
structure DI (X : Cx) (tg iter : Expr) (wi : TI) (ai : aA) : Prop where
  pi : PI X tg iter wi
  si : SI X.K wi ai
/-- over a list or a tuple that stands still -/
def aiSeq (x : aE) : aA := fun G M Q => x G M fun d M1 => match items d with | some ds => Q ds M1 | none => False
def iSeq (K : PySem.W.Frag) (tl : TE) : TI := fun σ H R => tl σ H fun x H1 => ∃ a, x = .ref a ∧ (((∃ xs, SqL K H1 a xs) ∧ R (Itl K a) H1) ∨ ((∃ xs, SqT K H1 a xs) ∧ R (Itt K a) H1))
/-- an iterator of one record, just laid -/
theorem iter_one {pins : List (Addr × Obj)} {σ : L2.St} {H : Hp} {s : Shared} {R : It → Hp → Prop} {J : It} {tn : Nat → Heap → Prop} {ob : Obj} (I : Inv X pins σ H s) (T : Turn X.prog X.w X.K tg J [s.heap.objs.size] s.heap.objs.size tn) (t0 : tn 0 (s.heap.push ob)) (q : R J H) :
    PIE X pins σ tg R (.ref s.heap.objs.size) { s with heap := s.heap.push ob } :=
  ⟨_, _, _, _, H, rfl, I.kept (t' := s.toks) fun _ _ e => Heap.get?_push_of_some _ e, T, t0, fun b hb => by
    cases List.mem_singleton.mp hb
    exact I.fpOk (Nat.le_refl _) (I.hok.fresh (Nat.le_refl _)), q⟩
theorem iter_seq {pins : List (Addr × Obj)} {σ : L2.St} {H : Hp} {s : Shared} {R : It → Hp → Prop} {a : Addr} (I : Inv X pins σ H s) (h : ((∃ xs, SqL X.K H a xs) ∧ R (Itl X.K a) H) ∨ ((∃ xs, SqT X.K H a xs) ∧ R (Itt X.K a) H)) :
    wpAny (model X.prog X.w) X.A (pyIter (.ref a)) (PIE X pins σ tg R) X.xe s := by
  rcases h with ⟨⟨xs, h⟩, q⟩ | ⟨⟨xs, h⟩, q⟩
  · obtain ⟨us, _, p, _⟩ := I.list h
    exact wpAny_pyIter_list p.isList (iter_one I (turn_list a _) ⟨_, Heap.get?_push_size _ rfl, rfl, rfl⟩ q)
  · obtain ⟨us, _, p, _⟩ := I.tuple h
    exact wpAny_pyIter_tuple (show s.heap.IsTuple a us.toArray from p) (iter_one I (turn_tuple a _) ⟨_, Heap.get?_push_size _ rfl, rfl, rfl⟩ q)
theorem pi_seq {l : Expr} {tl : TE} (hl : PE X l tl) : PI X tg l (iSeq X.K tl) := by
  refine ⟨fun pins s σ H R I h => ?_⟩
  refine thn (hl.run pins s σ H _ I h) fun v s1 ⟨x, H1, I1, r1, a, ex, q⟩ => ?_
  subst ex
  obtain rfl : v = Value.ref a := r1
  exact iter_seq I1 q
theorem drv_list {N1 : Hp} {p : Addr} {xs : List V} {ds : List D} (h : SqL K N1 p xs) (r : RelL K N1 xs ds) : Drv K (Itl K p) ds N1 := fun E G M N σ H C s1 i =>
  have hs : SqL K H p xs := C.cm.sm.seq (s1.seq h)
  ⟨fun hi => ⟨xs, hs, by rw [r.length]; exact hi⟩, fun d hd => by
    obtain ⟨x, hx, rx⟩ := r.getR hd
    refine ⟨⟨xs, x, hs, hx⟩, fun y H' hy => ?_⟩
    obtain ⟨rfl, hy⟩ := hy
    obtain rfl : x = y := Option.some.inj (hx.symm.trans (hy xs hs))
    exact ⟨N, Same.refl N, .refl, C.cm, rx.mono s1⟩⟩
theorem drv_tup {N1 : Hp} {p : Addr} {xs : List V} {ds : List D} (h : SqT K N1 p xs) (r : RelL K N1 xs ds) : Drv K (Itt K p) ds N1 := fun E G M N σ H C s1 i =>
  have hs : SqT K H p xs := same_seqT C.cm.sm (same_seqT s1 h)
  ⟨fun hi => ⟨xs, hs, by rw [r.length]; exact hi⟩, fun d hd => by
    obtain ⟨x, hx, rx⟩ := r.getR hd
    refine ⟨⟨xs, x, hs, hx⟩, fun y H' hy => ?_⟩
    obtain ⟨rfl, hy⟩ := hy
    obtain rfl : x = y := Option.some.inj (hx.symm.trans (hy xs hs))
    exact ⟨N, Same.refl N, .refl, C.cm, rx.mono s1⟩⟩
theorem di_seq {l : Expr} {tl : TE} {al : aE} (hl : DE X l tl al) : DI X tg l (iSeq X.K tl) (aiSeq al) := ⟨pi_seq hl.pe, by
  intro E G M N σ H C Q R q k
  refine hl.se E G M N σ H C _ _ q fun d v M1 N1 H1 h1 C1 s1 r1 => ?_
  split at h1
  · rename_i ds hi
    obtain ⟨p, xs, rfl, r2, h4⟩ := rel_items r1 hi
    refine ⟨p, rfl, ?_⟩
    rcases h4 with ⟨_, h4⟩ | ⟨_, h4⟩
    · exact .inl ⟨⟨xs, C1.cm.sm.seq h4⟩, k ds M1 N1 H1 _ h1 C1 s1 (drv_list h4 r2)⟩
    · exact .inr ⟨⟨xs, same_seqT C1.cm.sm h4⟩, k ds M1 N1 H1 _ h1 C1 s1 (drv_tup h4 r2)⟩
  · exact h1.elim⟩
/-- lo, lo + 1, .. -/
def rng (lo : Int) (n : Nat) : List D := (List.range n).map fun (j : Nat) => .int (lo + (j : Int))
theorem drv_range {N1 : Hp} {lo : Int} {n : Nat} : Drv K (Itr lo n) (rng lo n) N1 := fun E G M N σ H C s1 i =>
  ⟨fun hi => by
    show n ≤ i
    simpa [rng] using hi, fun d hd => by
    have hi : i < n := by
      have := (List.getElem?_eq_some_iff.mp hd).1
      simpa [rng] using this
    have e : d = .int (lo + (i : Int)) := by
      unfold rng at hd
      rw [List.getElem?_map, List.getElem?_range hi] at hd
      cases hd
      rfl
    subst e
    refine ⟨hi, fun y H' hy => ?_⟩
    obtain ⟨rfl, rfl⟩ := hy
    exact ⟨N, Same.refl N, .refl, C.cm, .int _⟩⟩
def aiRng1 (x : aA) : aA := fun G M Q => x G M fun ds M1 => match ds with
  | [.int j] => j ≤ 1000000 ∧ -1000000 ≤ j ∧ Q (rng 0 j.toNat) M1
  | _ => False
def aiRng2 (x : aA) : aA := fun G M Q => x G M fun ds M1 => match ds with
  | [.int i, .int j] => (j ≤ 1000000 ∧ -1000000 ≤ j ∧ i ≤ 1000000 ∧ -1000000 ≤ i) ∧ Q (rng i (j - i).toNat) M1
  | _ => False
theorem di_range1 {p : Pos} (hg : Gl X "range") (hm : X.mg "range" = none) (ha : DA X [a] t at1) (hs : starEach [a] X.env = [(false, eval a X.env)] := by rfl) : DI X tg (.Call (.Name "range" p) [a] [] pos) (iRng1 t) (aiRng1 at1) := ⟨pi_range1 hg hm ha.pa hs, by
  intro E G M N σ H C Q R q k
  refine ha.sa E G M N σ H C _ _ q fun ds vs M1 N1 H1 h1 C1 s1 r1 => ?_
  split at h1
  · obtain ⟨v, rfl, r2⟩ := rel1 r1
    cases r2
    exact ⟨_, rfl, by omega, by omega, k _ M1 N1 H1 _ h1.2.2 C1 s1 drv_range⟩
  · exact h1.elim⟩
theorem di_range2 {p : Pos} (hg : Gl X "range") (hm : X.mg "range" = none) (ha : DA X [a, b] t at1) (hs : starEach [a, b] X.env = [(false, eval a X.env), (false, eval b X.env)] := by rfl) (hs2 : starEach [b] X.env = [(false, eval b X.env)] := by rfl) :
    DI X tg (.Call (.Name "range" p) [a, b] [] pos) (iRng2 t) (aiRng2 at1) := ⟨pi_range2 hg hm ha.pa hs hs2, by
  intro E G M N σ H C Q R q k
  refine ha.sa E G M N σ H C _ _ q fun ds vs M1 N1 H1 h1 C1 s1 r1 => ?_
  split at h1
  · obtain ⟨v, w, rfl, r2, r3⟩ := rel2 r1
    cases r2; cases r3
    exact ⟨_, _, rfl, ⟨by omega, by omega, by omega, by omega⟩, k _ M1 N1 H1 _ h1.2 C1 s1 drv_range⟩
  · exact h1.elim⟩
/-- zip of two lists, of two tuples, that stand still -/
def zipD (ds es : List D) : List D := (ds.zip es).map fun p => .tup [p.1, p.2]
def aiZip (x : aA) : aA := fun G M Q => x G M fun ds M1 => match ds with
  | [d, e] => isL d = isL e ∧ (match items d, items e with | some xs, some ys => Q (zipD xs ys) M1 | _, _ => False)
  | _ => False
theorem zipD_get {ds es : List D} {i : Nat} {d : D} (h : (zipD ds es)[i]? = some d) : ∃ x y, ds[i]? = some x ∧ es[i]? = some y ∧ d = .tup [x, y] := by
  unfold zipD at h
  rw [List.getElem?_map] at h
  obtain ⟨⟨x, y⟩, h1, rfl⟩ := Option.map_eq_some_iff.mp h
  obtain ⟨h2, h3⟩ := List.getElem?_zip_eq_some.mp h1
  exact ⟨x, y, h2, h3, rfl⟩
theorem drv_zipL {N1 : Hp} {p q : Addr} {xs ys : List V} {ds es : List D} (h : SqL K N1 p xs) (r : RelL K N1 xs ds) (h' : SqL K N1 q ys) (r' : RelL K N1 ys es) : Drv K (Itz K p q) (zipD ds es) N1 := fun E G M N σ H C s1 i =>
  have hs : SqL K H p xs := C.cm.sm.seq (s1.seq h)
  have hs' : SqL K H q ys := C.cm.sm.seq (s1.seq h')
  ⟨fun hi => ⟨xs, ys, hs, hs', by rw [r.length, r'.length]; simp only [zipD, List.length_map, List.length_zip] at hi; omega⟩, fun d hd => by
    obtain ⟨d1, d2, e1, e2, rfl⟩ := zipD_get hd
    obtain ⟨x, hx, rx⟩ := r.getR e1
    obtain ⟨y, hy, ry⟩ := r'.getR e2
    refine ⟨⟨xs, ys, x, y, hs, hs', hx, hy⟩, fun v H' hv => ?_⟩
    obtain ⟨T, x', y', rfl, hT, rfl, f1, f2⟩ := hv
    obtain rfl : x = x' := Option.some.inj (hx.symm.trans (f1 xs hs))
    obtain rfl : y = y' := Option.some.inj (hy.symm.trans (f2 ys hs'))
    have s := same_new (o := .tup [x, y]) (C.cm.none hT).1
    exact ⟨_, s, fr_new hT (C.cm.none hT).1, cm_new C.cm hT, .tup upd_same (.cons ((rx.mono s1).mono s) (.cons ((ry.mono s1).mono s) .nil))⟩⟩
theorem drv_zipT {N1 : Hp} {p q : Addr} {xs ys : List V} {ds es : List D} (h : SqT K N1 p xs) (r : RelL K N1 xs ds) (h' : SqT K N1 q ys) (r' : RelL K N1 ys es) : Drv K (RZ.ItzT K p q) (zipD ds es) N1 := fun E G M N σ H C s1 i =>
  have hs : SqT K H p xs := same_seqT C.cm.sm (same_seqT s1 h)
  have hs' : SqT K H q ys := same_seqT C.cm.sm (same_seqT s1 h')
  ⟨fun hi => ⟨xs, ys, hs, hs', by rw [r.length, r'.length]; simp only [zipD, List.length_map, List.length_zip] at hi; omega⟩, fun d hd => by
    obtain ⟨d1, d2, e1, e2, rfl⟩ := zipD_get hd
    obtain ⟨x, hx, rx⟩ := r.getR e1
    obtain ⟨y, hy, ry⟩ := r'.getR e2
    refine ⟨⟨xs, ys, x, y, hs, hs', hx, hy⟩, fun v H' hv => ?_⟩
    obtain ⟨T, x', y', rfl, hT, rfl, f1, f2⟩ := hv
    obtain rfl : x = x' := Option.some.inj (hx.symm.trans (f1 xs hs))
    obtain rfl : y = y' := Option.some.inj (hy.symm.trans (f2 ys hs'))
    have s := same_new (o := .tup [x, y]) (C.cm.none hT).1
    exact ⟨_, s, fr_new hT (C.cm.none hT).1, cm_new C.cm hT, .tup upd_same (.cons ((rx.mono s1).mono s) (.cons ((ry.mono s1).mono s) .nil))⟩⟩
theorem di_zip {p tpos : Pos} {elts : List Expr} {kk : Nat} (hg : Gl X "zip") (hm : X.mg "zip" = none) (ha : DA X [a, b] t at1)
    (hs : starEach [a, b] X.env = (false, eval a X.env) :: starEach [b] X.env := by rfl) (hpl : (backTo pos (starEach [b] X.env)).any (·.1) = false := by rfl) :
    DI X (.Tuple elts kk tpos) (.Call (.Name "zip" p) [a, b] [] pos) (RZ.iZipA X.K t) (aiZip at1) := ⟨RZ.pi_zipA hg hm ha.pa hs hpl, by
  intro E G M N σ H C Q R q k
  refine ha.sa E G M N σ H C _ _ q fun ds vs M1 N1 H1 h1 C1 s1 r1 => ?_
  split at h1
  · obtain ⟨v, w, rfl, r2, r3⟩ := rel2 r1
    obtain ⟨h0, h1⟩ := h1
    split at h1
    · rename_i xs ys hx hy
      obtain ⟨p1, us, rfl, q2, h4⟩ := rel_items r2 hx
      obtain ⟨p2, ws, rfl, q3, h5⟩ := rel_items r3 hy
      refine ⟨p1, p2, us, ws, rfl, ?_⟩
      rcases h4 with ⟨e4, h4⟩ | ⟨e4, h4⟩
      · rcases h5 with ⟨e5, h5⟩ | ⟨e5, h5⟩
        · exact .inl ⟨C1.cm.sm.seq h4, C1.cm.sm.seq h5, k _ M1 N1 H1 _ h1 C1 s1 (drv_zipL h4 q2 h5 q3)⟩
        · rw [e4, e5] at h0; cases h0
      · rcases h5 with ⟨e5, h5⟩ | ⟨e5, h5⟩
        · rw [e4, e5] at h0; cases h0
        · exact .inr ⟨same_seqT C1.cm.sm h4, same_seqT C1.cm.sm h5, k _ M1 N1 H1 _ h1 C1 s1 (drv_zipT h4 q2 h5 q3)⟩
    · exact h1.elim
  · exact h1.elim⟩
/-- enumerate of a list that stands still -/
def enumD (ds : List D) : List D := (ds.zip (List.range ds.length)).map fun p => .tup [.int (p.2 : Nat), p.1]
theorem enumD_get {ds : List D} {i : Nat} {d : D} (h : (enumD ds)[i]? = some d) : ∃ x, ds[i]? = some x ∧ d = .tup [.int (i : Nat), x] := by
  unfold enumD at h
  rw [List.getElem?_map] at h
  obtain ⟨⟨x, y⟩, h1, rfl⟩ := Option.map_eq_some_iff.mp h
  obtain ⟨h2, h3⟩ := List.getElem?_zip_eq_some.mp h1
  have hi := (List.getElem?_eq_some_iff.mp h3).1
  rw [List.length_range] at hi
  rw [List.getElem?_range hi] at h3
  cases h3
  exact ⟨x, h2, rfl⟩
def aiEnum (x : aA) : aA := fun G M Q => x G M fun ds M1 => match ds with
  | [d] => isL d = true ∧ (match items d with | some xs => Q (enumD xs) M1 | _ => False)
  | _ => False
theorem drv_enum {N1 : Hp} {p : Addr} {xs : List V} {ds : List D} (h : SqL K N1 p xs) (r : RelL K N1 xs ds) : Drv K (Ite K p) (enumD ds) N1 := fun E G M N σ H C s1 i =>
  have hs : SqL K H p xs := C.cm.sm.seq (s1.seq h)
  ⟨fun hi => ⟨xs, hs, by rw [r.length]; simp only [enumD, List.length_map, List.length_zip, List.length_range] at hi; omega⟩, fun d hd => by
    obtain ⟨d1, e1, rfl⟩ := enumD_get hd
    obtain ⟨x, hx, rx⟩ := r.getR e1
    refine ⟨⟨xs, x, hs, hx⟩, fun v H' hv => ?_⟩
    obtain ⟨T, x', rfl, hT, rfl, f1⟩ := hv
    obtain rfl : x = x' := Option.some.inj (hx.symm.trans (f1 xs hs))
    have s := same_new (o := .tup [.int (i : Nat), x]) (C.cm.none hT).1
    exact ⟨_, s, fr_new hT (C.cm.none hT).1, cm_new C.cm hT, .tup upd_same (.cons (.int _) (.cons ((rx.mono s1).mono s) .nil))⟩⟩
theorem di_enum {p tpos : Pos} {elts : List Expr} {kk : Nat} (hg : Gl X "enumerate") (hm : X.mg "enumerate" = none) (ha : DA X [a] t at1) (hs : starEach [a] X.env = [(false, eval a X.env)] := by rfl) :
    DI X (.Tuple elts kk tpos) (.Call (.Name "enumerate" p) [a] [] pos) (iEnum X.K t) (aiEnum at1) := ⟨pi_enum hg hm ha.pa hs, by
  intro E G M N σ H C Q R q k
  refine ha.sa E G M N σ H C _ _ q fun ds vs M1 N1 H1 h1 C1 s1 r1 => ?_
  split at h1
  · obtain ⟨v, rfl, r2⟩ := rel1 r1
    obtain ⟨h0, h1⟩ := h1
    split at h1
    · rename_i xs hx
      obtain ⟨p1, us, rfl, q2, h4⟩ := rel_items r2 hx
      rcases h4 with ⟨e4, h4⟩ | ⟨e4, h4⟩
      · exact ⟨p1, us, rfl, C1.cm.sm.seq h4, k _ M1 N1 H1 _ h1 C1 s1 (drv_enum h4 q2)⟩
      · rw [e4] at h0; cases h0
    · exact h1.elim
  · exact h1.elim⟩
/-- the signs of a text -/
def signsD (x : Str) : List D := x.cps.toList.map fun c => .str ⟨#[c]⟩
def aiStr (x : aE) : aA := fun G M Q => x G M fun d M1 => match d with | .str z => Q (signsD z) M1 | _ => False
theorem drv_str {N1 : Hp} {z : Str} : Drv K (Its z) (signsD z) N1 := fun E G M N σ H C s1 i =>
  ⟨fun hi => by
    show z.cps.size ≤ i
    simpa [signsD] using hi, fun d hd => by
    have hi : i < z.cps.size := by
      have := (List.getElem?_eq_some_iff.mp hd).1
      simpa [signsD] using this
    refine ⟨hi, fun y H' hy => ?_⟩
    obtain ⟨rfl, c, hc, rfl⟩ := hy
    unfold signsD at hd
    rw [List.getElem?_map, Array.getElem?_toList, hc] at hd
    cases hd
    exact ⟨N, Same.refl N, .refl, C.cm, .str _⟩⟩
theorem di_str {l : Expr} {tl : TE} {al : aE} (hl : DE X l tl al) : DI X tg l (iStr tl) (aiStr al) := ⟨pi_str hl.pe, by
  intro E G M N σ H C Q R q k
  refine hl.se E G M N σ H C _ _ q fun d v M1 N1 H1 h1 C1 s1 r1 => ?_
  split at h1
  · cases r1
    exact ⟨_, rfl, k _ M1 N1 H1 _ h1 C1 s1 drv_str⟩
  · exact h1.elim⟩

/-! ### for -/
def forGo (g : aG) (b : aS) : List D → aS
  | [], A, G, M => A.nx G M
  | d :: ds, A, G, M => g d G M fun G' M' => b { A with nx := forGo g b ds A, ct := forGo g b ds A, bk := A.nx } G' M'
def asFor (src : aA) (g : aG) (b : aS) : aS := fun A G M => src G M fun ds M1 => forGo g b ds A G M1
theorem ds_for {iter : Expr} {body : List Stmt} {wi : TI} {awi : aA} (hi : DI X tg iter wi awi) (hg : DG X tg g ag) (hb : DSs X body tu au) (hp : PassesOwn (model X.prog X.w) X.A X.env X.xe) (hc : X.calm = true := by rfl)
    (hs : ∀ x, foldedSetIterable iter X.env x = pure x := by intro _; rfl) : DS X (.For tg iter body [] pos) (tFor wi g tu) (asFor awi ag au) := ⟨ps_for hp hc hi.pi hg.pg hb.ps hs, by
  intro E G M N σ H C A B m0 q k
  refine hi.si E G M N σ H C _ _ q fun ds M1 N1 H1 J h1 C1 s1 dr => ?_
  refine ⟨fun i m σ H => ∃ G M N', CC X.K E G M N' σ H ∧ Same N1 N' ∧ m = ds.length - i ∧ forGo ag au (ds.drop i) A G M, ⟨_, G, M1, N1, C1, Same.refl _, rfl, h1⟩, ?_⟩
  rintro i m σ H ⟨G, M, N', C', s', rfl, hf⟩
  obtain ⟨d1, d2⟩ := dr E G M N' σ H C' s' i
  by_cases hl : ds.length ≤ i
  · rw [List.drop_eq_nil_of_le hl] at hf
    exact .inl ⟨d1 hl, k.nx G M N' σ H hf C' (s1.trans s')⟩
  · have hl : i < ds.length := by omega
    rw [List.drop_eq_getElem_cons hl] at hf
    obtain ⟨g1, g2⟩ := d2 ds[i] (List.getElem?_eq_getElem hl)
    refine .inr ⟨g1, fun σ' H' => ∃ G M N', CC X.K E G M N' σ' H' ∧ Same N1 N' ∧ forGo ag au (ds.drop (i + 1)) A G M, fun σ' H' ⟨G, M, N', c, s, f⟩ => ⟨ds.length - (i + 1), by omega, G, M, N', c, s, rfl, f⟩, fun x H' hy => ?_⟩
    obtain ⟨N2, s2, f2, c2, r2⟩ := g2 x H' hy
    refine hg.sg E G M N2 σ H' (C'.step f2 c2) x _ r2 _ _ hf fun G3 M3 N3 σ3 H3 h3 C3 s3 => ?_
    have s4 : Same N1 N3 := s'.trans (s2.trans s3)
    refine hb.ss E G3 M3 N3 σ3 H3 C3 _ _ ?_ h3 ⟨?_, ?_, ?_, ?_⟩
    · exact m0
    · exact fun G' M' N4 σ' H' q' C4 s5 => ⟨G', M', N4, C4, s4.trans s5, q'⟩
    · exact fun d v G' M' N4 σ' H' q' C4 s5 r5 => k.rt d v G' M' N4 σ' H' q' C4 (s1.trans (s4.trans s5)) r5
    · exact fun G' M' N4 σ' H' q' C4 s5 => k.nx G' M' N4 σ' H' q' C4 (s1.trans (s4.trans s5))
    · exact fun G' M' N4 σ' H' q' C4 s5 => ⟨G', M', N4, C4, s4.trans s5, q'⟩⟩
end
end DL

set_option Elab.async false
set_option linter.all false
set_option maxRecDepth 100000
namespace DL
open PySem PySem.Spec PyProof.Rows L2
/-! ### wiped slots -/
theorem wipe_get (σ : L2.St) (j : Nat) : ∀ vs : List Nat, (wipe σ vs)[j]? = if j ∈ vs then σ[j]?.map (fun _ => none) else σ[j]?
  | [] => by simp [wipe]
  | v :: vs => by
    have ih := wipe_get σ j vs
    unfold wipe
    by_cases q : v = j
    · subst q
      rw [if_pos (by simp)]
      by_cases l : v < (wipe σ vs).length
      · rw [List.getElem?_set_self l]
        rw [wipe_length] at l
        rw [List.getElem?_eq_getElem l]
        rfl
      · rw [List.getElem?_eq_none (by simpa using l)]
        rw [wipe_length] at l
        rw [List.getElem?_eq_none (by omega)]
        rfl
    · rw [List.getElem?_set_ne q, ih]
      have e : (j ∈ v :: vs) = (j ∈ vs) := by simp [Ne.symm q]
      simp only [e]
theorem wipe_set (σ : L2.St) (j : Nat) (x : Option V) (vs : List Nat) (h : j ∈ vs) : wipe (σ.set j x) vs = wipe σ vs := by
  apply List.ext_getElem?
  intro i
  rw [wipe_get, wipe_get]
  by_cases q : j = i
  · subst q
    rw [if_pos h, if_pos h]
    by_cases l : j < σ.length
    · rw [List.getElem?_set_self l, List.getElem?_eq_getElem l]; rfl
    · rw [List.getElem?_eq_none (by simpa using l), List.getElem?_eq_none (by omega)]
  · rw [List.getElem?_set_ne q]
theorem wipe_wipe (σ : L2.St) (vs : List Nat) : wipe (wipe σ vs) vs = wipe σ vs := by
  apply List.ext_getElem?
  intro i
  rw [wipe_get, wipe_get]
  split
  · rw [Option.map_map]; rfl
  · rfl
/-- a target that stores in these slots alone -/
def OwnG (vs : List Nat) (g : TG) : Prop := ∀ v σ H Q, g v σ H Q → g v σ H fun σ2 H2 => wipe σ2 vs = wipe σ vs ∧ Q σ2 H2
def OwnGs (vs : List Nat) (g : TGs) : Prop := ∀ v σ H Q, g v σ H Q → g v σ H fun σ2 H2 => wipe σ2 vs = wipe σ vs ∧ Q σ2 H2
theorem own_name {vs : List Nat} {j : Nat} (h : j ∈ vs := by decide) : OwnG vs (gName j) := fun v σ H Q q => ⟨wipe_set σ j _ vs h, q⟩
theorem own_nil {vs : List Nat} : OwnGs vs gNil := fun v σ H Q q => ⟨q.1, rfl, q.2⟩
def MonoG (g : TG) : Prop := ∀ v σ H Q Q', (∀ σ H, Q σ H → Q' σ H) → g v σ H Q → g v σ H Q'
def MonoGs (g : TGs) : Prop := ∀ v σ H Q Q', (∀ σ H, Q σ H → Q' σ H) → g v σ H Q → g v σ H Q'
structure OwnM (vs : List Nat) (g : TG) : Prop where
  own : OwnG vs g
  mono : MonoG g
structure OwnMs (vs : List Nat) (g : TGs) : Prop where
  own : OwnGs vs g
  mono : MonoGs g
theorem om_name {vs : List Nat} {j : Nat} (h : j ∈ vs := by decide) : OwnM vs (gName j) := ⟨own_name h, fun v σ H Q Q' k q => k _ _ q⟩
theorem om_nil {vs : List Nat} : OwnMs vs gNil := ⟨own_nil, fun v σ H Q Q' k q => ⟨q.1, k _ _ q.2⟩⟩
theorem om_cons {vs : List Nat} {g : TG} {gs : TGs} (h1 : OwnM vs g) (h2 : OwnMs vs gs) : OwnMs vs (gCons g gs) where
  own := fun v σ H Q q => by
    obtain ⟨x, r, rfl, q⟩ := q
    refine ⟨x, r, rfl, h1.mono x σ H _ _ (fun σ1 H1 ⟨e1, q1⟩ => ?_) (h1.own x σ H _ q)⟩
    exact h2.mono r σ1 H1 _ _ (fun σ2 H2 ⟨e2, q2⟩ => ⟨e2.trans e1, q2⟩) (h2.own r σ1 H1 _ q1)
  mono := fun v σ H Q Q' k q => by
    obtain ⟨x, r, rfl, q⟩ := q
    exact ⟨x, r, rfl, h1.mono x σ H _ _ (fun σ1 H1 q1 => h2.mono r σ1 H1 _ _ k q1) q⟩
theorem om_tup {vs : List Nat} {K : PySem.W.Frag} {n : Nat} {gs : TGs} (h2 : OwnMs vs gs) : OwnM vs (gTup K n gs) where
  own := fun v σ H Q q => by
    obtain ⟨x, r, rfl, hs, hl, q⟩ := q
    exact ⟨x, r, rfl, hs, hl, h2.own r σ H _ q⟩
  mono := fun v σ H Q Q' k q => by
    obtain ⟨x, r, rfl, hs, hl, q⟩ := q
    exact ⟨x, r, rfl, hs, hl, h2.mono r σ H _ _ k q⟩
def wipeG (G : Gm) : List Nat → Gm
  | [] => G
  | v :: vs => (wipeG G vs).set v none
theorem wipeG_some {G : Gm} {i : Nat} {d : D} : ∀ {vs : List Nat}, (wipeG G vs)[i]? = some (some d) → G[i]? = some (some d) ∧ i ∉ vs
  | [], h => ⟨h, by simp⟩
  | v :: vs, h => by
    unfold wipeG at h
    by_cases q : v = i
    · subst q
      by_cases l : v < (wipeG G vs).length
      · rw [List.getElem?_set_self l] at h; cases h
      · rw [List.getElem?_eq_none (by simpa using l)] at h; cases h
    · rw [List.getElem?_set_ne q] at h
      obtain ⟨h1, h2⟩ := wipeG_some h
      exact ⟨h1, by simp [Ne.symm q, h2]⟩
theorem wipeG_length (G : Gm) : ∀ vs, (wipeG G vs).length = G.length
  | [] => rfl
  | v :: vs => by simp [wipeG, wipeG_length G vs]
theorem Sl.wipe {K : PySem.W.Frag} {N : Hp} {G : Gm} {σ : L2.St} (h : Sl K N G σ) (vs : List Nat) : Sl K N (wipeG G vs) (L2.wipe σ vs) := by
  refine ⟨by rw [wipe_length, wipeG_length, h.1], fun i d e => ?_⟩
  obtain ⟨h1, h2⟩ := wipeG_some e
  obtain ⟨v, h3, h4⟩ := h.2 i d h1
  exact ⟨v, by rw [wipe_get, if_neg h2]; exact h3, h4⟩

/-! ### comprehensions -/
def lcGo (g : aG) (t : aT) (x : aE) (G : Gm) : List D → List D → Mp → (List D → Mp → Prop) → Prop
  | [], acc, M, Q => Q acc M
  | d :: ds, acc, M, Q => g d G M fun G' M1 => t G' M1 fun b M2 => if b = true then x G' M2 fun y M3 => lcGo g t x G ds (acc ++ [y]) M3 Q else lcGo g t x G ds acc M2 Q
def aLc (src : aA) (g : aG) (t : aT) (x : aE) (vs : List Nat) : aE := fun G M Q => src G M fun ds M1 => ds.length ≤ 1000000 ∧ lcGo g t x (wipeG G vs) ds [] M1 fun acc M2 => Q (.list acc) M2
def aLcM (src : aA) (g : aG) (t : aT) (x : aE) (vs : List Nat) : aE := fun G M Q => src G M fun ds M1 => ds.length ≤ 1000000 ∧ lcGo g t x (wipeG G vs) ds [] M1 fun acc M2 => ∀ p, M2 p = none → Q (.ref p) (mupd M2 p (.lst acc))
section
variable {X : Cx} {K : PySem.W.Frag}
theorem lc_gen {wi : TI} {awi : aA} {g : TG} {ag : aG} {tt : TT} {at' : aT} {te : TE} {ae : aE} {vs : List Nat} (hi : SI K wi awi) (hg : SG K g ag) (ho : OwnM vs g) (ht : ST K tt at') (he : SE K te ae)
    {E : En} {G : Gm} {M : Mp} {N H : Hp} {σ : L2.St} (C : CC K E G M N σ H) {Qa : List D → Mp → Prop} {Qc : VK} (q : awi G M fun ds M1 => ds.length ≤ 1000000 ∧ lcGo ag at' ae (wipeG G vs) ds [] M1 Qa)
    (k : ∀ p acc accV M' N' H', Qa acc M' → CC K E G M' N' σ H' → Same N N' → H' p = some (.lst accV) → M' p = none → N' p = none → E.H p = none → RelL K N' accV acc → Qc (.ref p) H') : tLc wi g tt te vs σ H Qc := by
  refine hi E G M N σ H C _ _ q fun ds M1 N1 H1 J h1 C1 s1 dr => ?_
  intro p hp
  obtain ⟨hN, hM⟩ := C1.cm.none hp
  have h0 : E.H p = none := by
    cases w : E.H p with
    | none => rfl
    | some o =>
      obtain ⟨o', e'⟩ := C1.fr.dom p o w
      rw [e'] at hp; cases hp
  have first : Fr M1 N1 H1 M1 N1 (upd H1 p (.lst [])) := ⟨Same.refl _, fun a u e m => ⟨by rw [upd_ne (ne_of_none e hp)]; exact e, m⟩, fun a u e n => n, fun a u e => ⟨u, by rw [upd_ne (ne_of_none e hp)]; exact e⟩⟩
  have cm1 : CM K M1 N1 (upd H1 p (.lst [])) := ⟨fun a u e => by rw [upd_ne (ne_of_none e hN)]; exact C1.cm.sm _ _ e, fun a c e => by
    obtain ⟨x1, x2⟩ := C1.cm.hm a c e
    exact ⟨x1, x2.mono (Same.refl _) fun o e => by rw [upd_ne (ne_of_none e hp)]; exact e⟩⟩
  refine ⟨fun i m H => ∃ M N acc accV, Fr M1 N1 H1 M N H ∧ CM K M N H ∧ H p = some (.lst accV) ∧ M p = none ∧ N p = none ∧ RelL K N accV acc ∧ acc.length ≤ i ∧ m = ds.length - i ∧ lcGo ag at' ae (wipeG G vs) (ds.drop i) acc M Qa,
    ⟨_, M1, N1, [], [], first, cm1, upd_same, hM, hN, .nil, Nat.le_refl _, rfl, h1.2⟩, ?_⟩
  rintro i m H ⟨M, N, acc, accV, fr, cm, hH, hMp, hNp, ra, hai, rfl, hl⟩
  have C0 : CC K ⟨M, N, H⟩ (wipeG G vs) M N (wipe σ vs) H := ⟨.refl, cm, ((C1.sl.mono fr.nn).wipe vs)⟩
  obtain ⟨d1, d2⟩ := dr _ _ M N _ H C0 fr.nn i
  by_cases hlt : ds.length ≤ i
  · rw [List.drop_eq_nil_of_le hlt] at hl
    refine .inl ⟨d1 hlt, k p acc accV M N H hl ⟨C1.fr.trans fr, cm, C1.sl.mono fr.nn⟩ (s1.trans fr.nn) hH hMp hNp h0 ra⟩
  · have hlt : i < ds.length := by omega
    rw [List.drop_eq_getElem_cons hlt] at hl
    obtain ⟨g1, g2⟩ := d2 ds[i] (List.getElem?_eq_getElem hlt)
    refine .inr ⟨g1, fun H' => ∃ M N acc accV, Fr M1 N1 H1 M N H' ∧ CM K M N H' ∧ H' p = some (.lst accV) ∧ M p = none ∧ N p = none ∧ RelL K N accV acc ∧ acc.length ≤ i + 1 ∧ lcGo ag at' ae (wipeG G vs) (ds.drop (i + 1)) acc M Qa,
      fun H' ⟨M, N, acc, accV, x1, x2, x3, x4, x5, x6, x7, x8⟩ => ⟨ds.length - (i + 1), by omega, M, N, acc, accV, x1, x2, x3, x4, x5, x6, x7, rfl, x8⟩, fun x H' hy => ?_⟩
    obtain ⟨N2, s2, f2, c2, r2⟩ := g2 x H' hy
    have go : g x (wipe σ vs) H' fun σ2 H2 => tt σ2 H2 fun b H3 => if b = true then te σ2 H3 fun y H4 => ∃ acc, H4 p = some (.lst acc) ∧ acc.length < sizeLine ∧
        (∃ M N acc' accV, Fr M1 N1 H1 M N (upd H4 p (.lst (acc ++ [y]))) ∧ CM K M N (upd H4 p (.lst (acc ++ [y]))) ∧ (upd H4 p (.lst (acc ++ [y]))) p = some (.lst accV) ∧ M p = none ∧ N p = none ∧ RelL K N accV acc' ∧ acc'.length ≤ i + 1 ∧ lcGo ag at' ae (wipeG G vs) (ds.drop (i + 1)) acc' M Qa)
        else ∃ M N acc accV, Fr M1 N1 H1 M N H3 ∧ CM K M N H3 ∧ H3 p = some (.lst accV) ∧ M p = none ∧ N p = none ∧ RelL K N accV acc ∧ acc.length ≤ i + 1 ∧ lcGo ag at' ae (wipeG G vs) (ds.drop (i + 1)) acc M Qa := by
      refine hg _ _ M N2 _ H' (C0.step f2 c2) x _ r2 _ _ hl fun G3 M3 N3 σ3 H3 h3 C3 s3 => ?_
      refine ht _ _ M3 N3 σ3 H3 C3 _ _ h3 fun b M4 N4 H4 h4 C4 s4 => ?_
      cases b with
      | false =>
        rw [if_neg Bool.false_ne_true] at h4 ⊢
        obtain ⟨y1, y2⟩ := C4.fr.keep p _ hH hMp
        exact ⟨M4, N4, acc, accV, fr.trans C4.fr, C4.cm, y1, y2, C4.fr.new p _ hH hNp, ra.mono C4.fr.nn, by omega, h4⟩
      | true =>
        rw [if_pos rfl] at h4 ⊢
        refine he _ _ M4 N4 σ3 H4 C4 _ _ h4 fun dy y M5 N5 H5 h5 C5 s5 r5 => ?_
        obtain ⟨y1, y2⟩ := C5.fr.keep p _ hH hMp
        have y3 := C5.fr.new p _ hH hNp
        refine ⟨accV, y1, by rw [ra.length]; exact big_lt (by omega), M5, N5, acc ++ [dy], accV ++ [y], ?_, ?_, upd_same, y2, y3, (ra.mono C5.fr.nn).append (.cons r5 .nil), by simp; omega, h5⟩
        · have f5 := fr.trans C5.fr
          exact ⟨f5.nn, fun a u e m => by
            obtain ⟨z1, z2⟩ := f5.keep a u e m
            exact ⟨by rw [upd_ne (ne_of_none e hp)]; exact z1, z2⟩, f5.new, fun a u e => by
            obtain ⟨o, z⟩ := f5.dom a u e
            exact ⟨o, by rw [upd_ne (ne_of_none e hp)]; exact z⟩⟩
        · exact ⟨fun a u e => by rw [upd_ne (ne_of_none e y3)]; exact C5.cm.sm _ _ e, fun a c e => by
            obtain ⟨z1, z2⟩ := C5.cm.hm a c e
            have qn : a ≠ p := fun z => by subst z; rw [y2] at e; cases e
            exact ⟨z1, z2.mono (Same.refl _) fun o e => by rw [upd_ne qn]; exact e⟩⟩
    refine ho.mono x _ H' _ _ (fun σ2 H2 ⟨e2, q2⟩ => ?_) (ho.own x _ H' _ go)
    exact ⟨by rw [e2, wipe_wipe], q2⟩
variable {elt tg iter : Expr} {ifs : List Expr} {scope : Scope} {own : List (Str × Nat)} {pos : Pos} {wi : TI} {awi : aA} {g : TG} {ag : aG} {tt : TT} {at' : aT} {te : TE} {ae : aE}
structure DTs (X : Cx) (ifs : List Expr) (tt : TT) (at' : aT) : Prop where
  pt : PTs X ifs tt
  st : ST X.K tt at'
def atYes : aT := fun _ M Q => Q true M
theorem dts_nil : DTs X [] tYes atYes := ⟨pts_nil, fun E G M N σ H C Q Qc q k => k true M N H q C (Same.refl N)⟩
theorem dts_one {c : Expr} (h : DT X c tt at') : DTs X [c] tt at' := ⟨pts_one h.pt, h.st⟩
theorem se_lc {vs : List Nat} (hi : SI K wi awi) (hg : SG K g ag) (ho : OwnM vs g) (ht : ST K tt at') (he : SE K te ae) : SE K (tLc wi g tt te vs) (aLc awi ag at' ae vs) := by
  intro E G M N σ H C Q Qc q k
  refine lc_gen hi hg ho ht he C q fun p acc accV M' N' H' q' C' s' hH hM hN h0 r => ?_
  have e : mdel M' p = M' := by
    funext b
    unfold mdel
    split
    · rename_i h; subst h; exact hM.symm
    · rfl
  have C2 := C'.freeze hN hH h0
  rw [e] at C2
  exact (k.from (s'.trans (same_new hN))).at C2 q' (.list upd_same (r.mono (same_new hN)))
theorem se_lcM {vs : List Nat} (hi : SI K wi awi) (hg : SG K g ag) (ho : OwnM vs g) (ht : ST K tt at') (he : SE K te ae) : SE K (tLc wi g tt te vs) (aLcM awi ag at' ae vs) := by
  intro E G M N σ H C Q Qc q k
  refine lc_gen hi hg ho ht he C q fun p acc accV M' N' H' q' C' s' hH hM hN h0 r => ?_
  refine k (.ref p) (.ref p) _ N' H' (q' p hM) ⟨⟨C'.fr.nn, fun a o e m => ?_, C'.fr.new, C'.fr.dom⟩, ⟨C'.cm.sm, fun a c e => ?_⟩, C'.sl⟩ s' (.ref p)
  · obtain ⟨z1, z2⟩ := C'.fr.keep a o e m
    exact ⟨z1, by rw [mupd_ne (ne_of_none e h0)]; exact z2⟩
  · by_cases qa : a = p
    · subst qa
      rw [mupd_same] at e
      cases e
      exact ⟨hN, hasL hH r⟩
    · rw [mupd_ne qa] at e
      exact C'.cm.hm a c e
abbrev BV (α : Type _) := Shared → Hp → Addr → List (Str × Addr) → List Addr → α
theorem de_lc {g' : BV TG} {ag' : BV aG} {tt' : BV TT} {at'' : BV aT} {te' : BV TE} {ae' : BV aE} (hc : X.calm = true) (hN : X.N.Nodup) (hi : DI X tg iter wi awi) (ok : BlkOk X.N X.env.scope scope own)
    (hg : ∀ (s : Shared) (H : Hp) (C : Addr) (cl : List (Str × Addr)) (fp : List Addr), DG (X.blk s H scope (compEnvC scope cl C X.env) fp) tg (g' s H C cl fp) (ag' s H C cl fp)) (ht : ∀ (s : Shared) (H : Hp) (C : Addr) (cl : List (Str × Addr)) (fp : List Addr), DTs (X.blk s H scope (compEnvC scope cl C X.env) fp) ifs (tt' s H C cl fp) (at'' s H C cl fp))
    (he : ∀ (s : Shared) (H : Hp) (C : Addr) (cl : List (Str × Addr)) (fp : List Addr), DE (X.blk s H scope (compEnvC scope cl C X.env) fp) elt (te' s H C cl fp) (ae' s H C cl fp)) (ho : OwnM (own.map (·.2)) (g' X.s_0 X.H_0 0 [] [])) (hs : ∀ x, foldedSetIterable iter X.env x = pure x := by intro _; rfl)
    (eg : ∀ s H C cl fp, g' s H C cl fp = g' X.s_0 X.H_0 0 [] [] := by intro _ _ _ _ _; rfl) (et : ∀ s H C cl fp, tt' s H C cl fp = tt' X.s_0 X.H_0 0 [] [] := by intro _ _ _ _ _; rfl) (ee : ∀ s H C cl fp, te' s H C cl fp = te' X.s_0 X.H_0 0 [] [] := by intro _ _ _ _ _; rfl) :
    DE X (.ListComp elt [⟨tg, iter, ifs, 0⟩] scope pos) (tLc wi (g' X.s_0 X.H_0 0 [] []) (tt' X.s_0 X.H_0 0 [] []) (te' X.s_0 X.H_0 0 [] []) (own.map (·.2))) (aLc awi (ag' X.s_0 X.H_0 0 [] []) (at'' X.s_0 X.H_0 0 [] []) (ae' X.s_0 X.H_0 0 [] []) (own.map (·.2))) :=
  ⟨pe_lc hc hN hi.pi ok (fun s H C cl fp => by rw [← eg s H C cl fp]; exact (hg s H C cl fp).pg) (fun s H C cl fp => by rw [← et s H C cl fp]; exact (ht s H C cl fp).pt) (fun s H C cl fp => by rw [← ee s H C cl fp]; exact (he s H C cl fp).pe) hs, se_lc hi.si (hg X.s_0 X.H_0 0 [] []).sg ho (ht X.s_0 X.H_0 0 [] []).st (he X.s_0 X.H_0 0 [] []).se⟩
theorem de_lcM {g' : BV TG} {ag' : BV aG} {tt' : BV TT} {at'' : BV aT} {te' : BV TE} {ae' : BV aE} (hc : X.calm = true) (hN : X.N.Nodup) (hi : DI X tg iter wi awi) (ok : BlkOk X.N X.env.scope scope own)
    (hg : ∀ (s : Shared) (H : Hp) (C : Addr) (cl : List (Str × Addr)) (fp : List Addr), DG (X.blk s H scope (compEnvC scope cl C X.env) fp) tg (g' s H C cl fp) (ag' s H C cl fp)) (ht : ∀ (s : Shared) (H : Hp) (C : Addr) (cl : List (Str × Addr)) (fp : List Addr), DTs (X.blk s H scope (compEnvC scope cl C X.env) fp) ifs (tt' s H C cl fp) (at'' s H C cl fp))
    (he : ∀ (s : Shared) (H : Hp) (C : Addr) (cl : List (Str × Addr)) (fp : List Addr), DE (X.blk s H scope (compEnvC scope cl C X.env) fp) elt (te' s H C cl fp) (ae' s H C cl fp)) (ho : OwnM (own.map (·.2)) (g' X.s_0 X.H_0 0 [] [])) (hs : ∀ x, foldedSetIterable iter X.env x = pure x := by intro _; rfl)
    (eg : ∀ s H C cl fp, g' s H C cl fp = g' X.s_0 X.H_0 0 [] [] := by intro _ _ _ _ _; rfl) (et : ∀ s H C cl fp, tt' s H C cl fp = tt' X.s_0 X.H_0 0 [] [] := by intro _ _ _ _ _; rfl) (ee : ∀ s H C cl fp, te' s H C cl fp = te' X.s_0 X.H_0 0 [] [] := by intro _ _ _ _ _; rfl) :
    DE X (.ListComp elt [⟨tg, iter, ifs, 0⟩] scope pos) (tLc wi (g' X.s_0 X.H_0 0 [] []) (tt' X.s_0 X.H_0 0 [] []) (te' X.s_0 X.H_0 0 [] []) (own.map (·.2))) (aLcM awi (ag' X.s_0 X.H_0 0 [] []) (at'' X.s_0 X.H_0 0 [] []) (ae' X.s_0 X.H_0 0 [] []) (own.map (·.2))) :=
  ⟨pe_lc hc hN hi.pi ok (fun s H C cl fp => by rw [← eg s H C cl fp]; exact (hg s H C cl fp).pg) (fun s H C cl fp => by rw [← et s H C cl fp]; exact (ht s H C cl fp).pt) (fun s H C cl fp => by rw [← ee s H C cl fp]; exact (he s H C cl fp).pe) hs, se_lcM hi.si (hg X.s_0 X.H_0 0 [] []).sg ho (ht X.s_0 X.H_0 0 [] []).st (he X.s_0 X.H_0 0 [] []).se⟩
theorem ds_setLc {g' : BV TG} {ag' : BV aG} {tt' : BV TT} {at'' : BV aT} {te' : BV TE} {ae' : BV aE} {j : Nat} {y : Str} {py spos : Pos} (hc : X.calm = true) (hN : X.N.Nodup) (hy : X.N[j]? = some y) (hyl : X.env.scope.names.lookup y = some .local)
    (hsw : swapsWith (.ListComp elt [⟨tg, iter, ifs, 0⟩] scope pos) (some (.Name y py)) spos.line X.env = pure true) (hi : DI X tg iter wi awi) (ok : BlkOk X.N X.env.scope scope own)
    (hg : ∀ (s : Shared) (H : Hp) (C : Addr) (cl : List (Str × Addr)) (fp : List Addr), DG (X.blk s H scope (compEnvC scope cl C X.env) fp) tg (g' s H C cl fp) (ag' s H C cl fp)) (ht : ∀ (s : Shared) (H : Hp) (C : Addr) (cl : List (Str × Addr)) (fp : List Addr), DTs (X.blk s H scope (compEnvC scope cl C X.env) fp) ifs (tt' s H C cl fp) (at'' s H C cl fp))
    (he : ∀ (s : Shared) (H : Hp) (C : Addr) (cl : List (Str × Addr)) (fp : List Addr), DE (X.blk s H scope (compEnvC scope cl C X.env) fp) elt (te' s H C cl fp) (ae' s H C cl fp)) (ho : OwnM (own.map (·.2)) (g' X.s_0 X.H_0 0 [] [])) (hs : ∀ x, foldedSetIterable iter X.env x = pure x := by intro _; rfl)
    (eg : ∀ s H C cl fp, g' s H C cl fp = g' X.s_0 X.H_0 0 [] [] := by intro _ _ _ _ _; rfl) (et : ∀ s H C cl fp, tt' s H C cl fp = tt' X.s_0 X.H_0 0 [] [] := by intro _ _ _ _ _; rfl) (ee : ∀ s H C cl fp, te' s H C cl fp = te' X.s_0 X.H_0 0 [] [] := by intro _ _ _ _ _; rfl) :
    DS X (.Assign [.Name y py] (.ListComp elt [⟨tg, iter, ifs, 0⟩] scope pos) spos) (tAsg (tLc wi (g' X.s_0 X.H_0 0 [] []) (tt' X.s_0 X.H_0 0 [] []) (te' X.s_0 X.H_0 0 [] []) (own.map (·.2))) (gName j)) (asAsg (aLc awi (ag' X.s_0 X.H_0 0 [] []) (at'' X.s_0 X.H_0 0 [] []) (ae' X.s_0 X.H_0 0 [] []) (own.map (·.2))) (agName j)) :=
  ⟨ps_setLc hc hN hy hyl hsw hi.pi ok (fun s H C cl fp => by rw [← eg s H C cl fp]; exact (hg s H C cl fp).pg) (fun s H C cl fp => by rw [← et s H C cl fp]; exact (ht s H C cl fp).pt) (fun s H C cl fp => by rw [← ee s H C cl fp]; exact (he s H C cl fp).pe) hs, ss_asg (se_lc hi.si (hg X.s_0 X.H_0 0 [] []).sg ho (ht X.s_0 X.H_0 0 [] []).st (he X.s_0 X.H_0 0 [] []).se) sg_name⟩
theorem ds_setLcM {g' : BV TG} {ag' : BV aG} {tt' : BV TT} {at'' : BV aT} {te' : BV TE} {ae' : BV aE} {j : Nat} {y : Str} {py spos : Pos} (hc : X.calm = true) (hN : X.N.Nodup) (hy : X.N[j]? = some y) (hyl : X.env.scope.names.lookup y = some .local)
    (hsw : swapsWith (.ListComp elt [⟨tg, iter, ifs, 0⟩] scope pos) (some (.Name y py)) spos.line X.env = pure true) (hi : DI X tg iter wi awi) (ok : BlkOk X.N X.env.scope scope own)
    (hg : ∀ (s : Shared) (H : Hp) (C : Addr) (cl : List (Str × Addr)) (fp : List Addr), DG (X.blk s H scope (compEnvC scope cl C X.env) fp) tg (g' s H C cl fp) (ag' s H C cl fp)) (ht : ∀ (s : Shared) (H : Hp) (C : Addr) (cl : List (Str × Addr)) (fp : List Addr), DTs (X.blk s H scope (compEnvC scope cl C X.env) fp) ifs (tt' s H C cl fp) (at'' s H C cl fp))
    (he : ∀ (s : Shared) (H : Hp) (C : Addr) (cl : List (Str × Addr)) (fp : List Addr), DE (X.blk s H scope (compEnvC scope cl C X.env) fp) elt (te' s H C cl fp) (ae' s H C cl fp)) (ho : OwnM (own.map (·.2)) (g' X.s_0 X.H_0 0 [] [])) (hs : ∀ x, foldedSetIterable iter X.env x = pure x := by intro _; rfl)
    (eg : ∀ s H C cl fp, g' s H C cl fp = g' X.s_0 X.H_0 0 [] [] := by intro _ _ _ _ _; rfl) (et : ∀ s H C cl fp, tt' s H C cl fp = tt' X.s_0 X.H_0 0 [] [] := by intro _ _ _ _ _; rfl) (ee : ∀ s H C cl fp, te' s H C cl fp = te' X.s_0 X.H_0 0 [] [] := by intro _ _ _ _ _; rfl) :
    DS X (.Assign [.Name y py] (.ListComp elt [⟨tg, iter, ifs, 0⟩] scope pos) spos) (tAsg (tLc wi (g' X.s_0 X.H_0 0 [] []) (tt' X.s_0 X.H_0 0 [] []) (te' X.s_0 X.H_0 0 [] []) (own.map (·.2))) (gName j)) (asAsg (aLcM awi (ag' X.s_0 X.H_0 0 [] []) (at'' X.s_0 X.H_0 0 [] []) (ae' X.s_0 X.H_0 0 [] []) (own.map (·.2))) (agName j)) :=
  ⟨ps_setLc hc hN hy hyl hsw hi.pi ok (fun s H C cl fp => by rw [← eg s H C cl fp]; exact (hg s H C cl fp).pg) (fun s H C cl fp => by rw [← et s H C cl fp]; exact (ht s H C cl fp).pt) (fun s H C cl fp => by rw [← ee s H C cl fp]; exact (he s H C cl fp).pe) hs, ss_asg (se_lcM hi.si (hg X.s_0 X.H_0 0 [] []).sg ho (ht X.s_0 X.H_0 0 [] []).st (he X.s_0 X.H_0 0 [] []).se) sg_name⟩
end

/-! ### a def's promise -/
/-- what a value and the objects may be taken for -/
def Cv (K : PySem.W.Frag) (M0 : Mp) (d : D) (M : Mp) (d' : D) (M' : Mp) : Prop := ∀ N0 H0 N H v, Fr M0 N0 H0 M N H → CM K M N H → RelD K N v d → ∃ N', Fr M0 N0 H0 M' N' H ∧ CM K M' N' H ∧ RelD K N' v d'
def Fin (K : PySem.W.Frag) (M0 : Mp) (Q : QD) (d : D) (M : Mp) : Prop := ∃ d' M', Cv K M0 d M d' M' ∧ Q d' M'
section
variable {K : PySem.W.Frag} {M0 M M' : Mp} {d : D} {Q : QD}
theorem cv_refl : Cv K M0 d M d M := fun N0 H0 N H v f c r => ⟨N, f, c, r⟩
theorem Cv.trans {M1 M2 M3 : Mp} {d1 d2 d3 : D} (h : Cv K M0 d1 M1 d2 M2) (h' : Cv K M0 d2 M2 d3 M3) : Cv K M0 d1 M1 d3 M3 := fun N0 H0 N H v f c r => by
  obtain ⟨N1, f1, c1, r1⟩ := h N0 H0 N H v f c r
  exact h' N0 H0 N1 H v f1 c1 r1
theorem cv_sub (s : Sub M' M) : Cv K M0 d M d M' := fun N0 H0 N H v f c r => ⟨N, ⟨f.nn, fun a o h m => by
    obtain ⟨h1, h2⟩ := f.keep a o h m
    exact ⟨h1, s.none h2⟩, f.new, f.dom⟩, ⟨c.sm, fun a x h => c.hm a x (s _ _ h)⟩, r⟩
theorem Fr.h0 {N0 H0 N H : Hp} (f : Fr M0 N0 H0 M N H) {a : Addr} {c : MC} (h : M a = some c) (h0 : M0 a = none) : H0 a = none := by
  cases q : H0 a with
  | none => rfl
  | some o => rw [(f.keep a o q h0).2] at h; cases h
/-- a list of ours stands still from now on -/
theorem cv_list {a : Addr} {ds : List D} (h : M a = some (.lst ds)) (h0 : M0 a = none) : Cv K M0 (.ref a) M (.list ds) (mdel M a) := fun N0 H0 N H v f c r => by
  have e := rel_ref r
  subst e
  obtain ⟨hN, xs, hH, rx⟩ := c.hm a _ h
  have C : CC K ⟨M0, N0, H0⟩ [] M N [] H := ⟨f, c, rfl, fun i d e => by simp at e⟩
  have C2 := C.freeze hN hH (f.h0 h h0)
  exact ⟨_, C2.fr, C2.cm, .list upd_same (rx.mono (same_new hN))⟩
theorem Fin.of (h : Q d M) : Fin K M0 Q d M := ⟨d, M, cv_refl, h⟩
theorem Fin.sub (s : Sub M' M) (h : Q d M') : Fin K M0 Q d M := ⟨d, M', cv_sub s, h⟩
theorem Fin.list {a : Addr} {ds : List D} (h : M a = some (.lst ds)) (h0 : M0 a = none) (s : Sub M' (mdel M a)) (q : Q (.list ds) M') : Fin K M0 Q (.ref a) M := ⟨_, _, (cv_list h h0).trans (cv_sub s), q⟩
end
def startG (N : List Str) (ds : List D) : Gm := ds.map some ++ List.replicate (N.length - ds.length) none
theorem sl_start {K : PySem.W.Frag} {H : Hp} {N : List Str} {vs : List V} {ds : List D} (r : RelL K H vs ds) : Sl K H (startG N ds) (L2.start N vs) := by
  refine ⟨by simp [startG, L2.start, r.length], fun i d e => ?_⟩
  unfold startG at e
  unfold L2.start
  by_cases q : i < ds.length
  · rw [List.getElem?_append_left (by simpa using q), List.getElem?_map] at e
    obtain ⟨d', e1, e2⟩ := Option.map_eq_some_iff.mp e
    cases e2
    obtain ⟨v, h1, h2⟩ := r.getR e1
    exact ⟨v, by rw [List.getElem?_append_left (by simpa [r.length] using q), List.getElem?_map, h1]; rfl, h2⟩
  · rw [List.getElem?_append_right (by simpa using q), List.getElem?_replicate] at e
    split at e <;> cases e
section
variable {P : Program} {w : World} {K : PySem.W.Frag} {mg : Str → Option Value} {base : Heap}
theorem okD {x qual : Str} {st : Stmt} {f : Addr} {fd : FuncData} {N ps : List Str} {k n : Nat} {sp : aSp} (F : Fun K x qual st f fd) (S : FnScope N ps (defScope st)) (hn : n = ps.length)
    (hbody : ∀ (cdv : Value) (A : Around) (outer : List Env) (s : Shared) (H : Hp) (E : XK), Room k (A.deeper (envOfC qual (defScope st) s.heap.objs.size f cdv)) →
      ∃ ts as, DSs (cxOf CX0 P w K mg base N qual (defScope st) f cdv A outer s H E).nox (defBody st) ts as ∧ ∀ ds M Q, ds.length = n → sp ds M Q → as { m0 := M, nx := fun _ M' => Fin K M Q .non M', rt := Fin K M Q } (startG N ds) M) :
    FnOk P w K mg base CX0 (k + 1) f fd ps (lift K n sp) := by
  refine F.ok S (fun vs H Q E h => ?_) (fun cdv A outer s H vs Q E hr h => ?_)
  · obtain ⟨ds, M, N, Q', hl, _, r, _⟩ := h
    rw [r.length, hl, hn]
  · obtain ⟨ts, as, hd, hb⟩ := hbody cdv A outer s H E hr
    obtain ⟨ds, M, N', Q', hl, cm, r, hsp, k⟩ := h
    refine ⟨ts, hd.ps, hd.ss ⟨M, N', H⟩ _ M N' _ H ⟨.refl, cm, sl_start r⟩ _ _ rfl (hb ds M Q' hl hsp) ⟨?_, ?_, ?_, ?_⟩⟩
    · rintro G' M' N2 σ' H' ⟨d', M2, cv, q⟩ C' s'
      obtain ⟨N3, f3, c3, r3⟩ := cv _ _ _ _ V.non C'.fr C'.cm .non
      exact k _ _ _ _ _ q f3 c3 r3
    · rintro d v G' M' N2 σ' H' ⟨d', M2, cv, q⟩ C' s' r'
      obtain ⟨N3, f3, c3, r3⟩ := cv _ _ _ _ v C'.fr C'.cm r'
      exact k _ _ _ _ _ q f3 c3 r3
    · exact fun _ _ _ _ _ z _ _ => z.elim
    · exact fun _ _ _ _ _ z _ _ => z.elim
end
end DL

set_option Elab.async false
set_option linter.all false
set_option maxRecDepth 100000
namespace DL
open PySem PySem.Spec PyProof.Rows L2
/-! ### max, min of a tuple of ints -/
section
variable {prog : Program} {w : World} {A : Around} {E : Value → Shared → Prop} {s : Shared} {l : Addr} {its : List Value} {ns : List Int} {Q : Value → Shared → Prop}
theorem tup_old {xs : Array (Int × Tok)} {h' : Heap} (hk : ∀ b o, b ∉ [s.heap.objs.size] → (s.heap.push { cls := .type "tuple_iterator", data := .fields #[.ref l, .int 0 0] }).get? b = some o → h'.get? b = some o) :
    ∀ b o, s.heap.get? b = some o → h'.get? b = some o := fun b o e =>
  hk b o (fun hm => absurd (List.mem_singleton.mp hm ▸ Heap.lt_size e) (Nat.lt_irrefl _)) (Heap.get?_push_of_some _ e)
theorem tup_fp {l : Addr} (hlt : l < s.heap.objs.size) {o : Obj} : ∀ b ∈ [s.heap.objs.size, l], b < (s.heap.push o).objs.size := fun b hb => by
  rw [Heap.size_push]
  rcases List.mem_cons.mp hb with rfl | hb
  · exact Nat.lt_succ_self _
  · rw [List.mem_singleton.mp hb]; exact Nat.lt_succ_of_lt hlt
theorem max_tup {xs : Array (Int × Tok)} (hh : A.handled = none) (hl : s.heap.IsTuple l (intItems xs)) (hne : 0 < xs.size)
    (h : ∀ v h' tk, (intItems xs)[argBest (fun i j => decide (numAt xs i > numAt xs j)) (xs.size - 1)]? = some v → (∀ b o, s.heap.get? b = some o → h'.get? b = some o) → Q v { s with heap := h', toks := tk }) :
    wpAny (model prog w) A (call (.builtin "max") [.ref l]) Q E s := by
  have hlt : l < s.heap.objs.size := by obtain ⟨_, e, _⟩ := hl; exact Heap.lt_size e
  refine call_max_walk (wpAny_pyIter_tuple hl ?_)
  exact ⟨_, _, _, _, _, _, _, rfl, Walks.tuple (A := A.in1) hh _ l (Nat.ne_of_lt hlt) (intItems xs), ⟨⟨_, Heap.get?_push_size _ rfl, rfl, rfl⟩, hl.push _⟩, tup_fp hlt, by simpa [intItems] using hne, CmpOf.ints_gt (numAt xs) (fun _ _ => intItems_at),
    fun v h' tk hP hk => h v h' tk (by simpa [intItems] using hP) (tup_old (xs := xs) hk)⟩
theorem min_tup {xs : Array (Int × Tok)} (hh : A.handled = none) (hl : s.heap.IsTuple l (intItems xs)) (hne : 0 < xs.size)
    (h : ∀ v h' tk, (intItems xs)[argBest (fun i j => decide (numAt xs i < numAt xs j)) (xs.size - 1)]? = some v → (∀ b o, s.heap.get? b = some o → h'.get? b = some o) → Q v { s with heap := h', toks := tk }) :
    wpAny (model prog w) A (call (.builtin "min") [.ref l]) Q E s := by
  have hlt : l < s.heap.objs.size := by obtain ⟨_, e, _⟩ := hl; exact Heap.lt_size e
  refine call_min_walk (wpAny_pyIter_tuple hl ?_)
  exact ⟨_, _, _, _, _, _, _, rfl, Walks.tuple (A := A.in1) hh _ l (Nat.ne_of_lt hlt) (intItems xs), ⟨⟨_, Heap.get?_push_size _ rfl, rfl, rfl⟩, hl.push _⟩, tup_fp hlt, by simpa [intItems] using hne, CmpOf.ints_lt (numAt xs) (fun _ _ => intItems_at),
    fun v h' tk hP hk => h v h' tk (by simpa [intItems] using hP) (tup_old (xs := xs) hk)⟩
theorem maxT_raw (hh : A.handled = none) (hl : s.heap.IsTuple l its.toArray) (hi : IntsAre its ns) (hne : 0 < ns.length)
    (h : ∀ h' tk M t', (∀ b o, s.heap.get? b = some o → h'.get? b = some o) → M ∈ ns → (∀ a, a ∈ ns → a ≤ M) → Q (.int M t') { s with heap := h', toks := tk }) : wpAny (model prog w) A (call (.builtin "max") [.ref l]) Q E s := by
  obtain ⟨xs, e⟩ := hi.allInts.items
  have hn : numsOf (intItems xs).toList = ns := by rw [← e]; exact hi.numsOf
  rw [nums_intItems] at hn
  subst hn
  rw [e] at hl
  have hsz : 0 < xs.size := by simpa using hne
  refine max_tup hh hl hsz fun v h' tk hv hk => ?_
  obtain ⟨t, rfl⟩ := intItems_at hv
  obtain ⟨h1, h2⟩ := argBest_gt (numAt xs) (xs.size - 1)
  refine h h' tk _ t hk ?_ fun a ha => ?_
  · rw [numAt_eq]
    exact PySem.getD_mem (by rw [List.length_map, Array.length_toList]; omega)
  · obtain ⟨j, hj, rfl⟩ := mem_getD ha
    simp at hj
    rw [← numAt_eq]
    exact h2 j (by omega)
theorem minT_raw (hh : A.handled = none) (hl : s.heap.IsTuple l its.toArray) (hi : IntsAre its ns) (hne : 0 < ns.length)
    (h : ∀ h' tk M t', (∀ b o, s.heap.get? b = some o → h'.get? b = some o) → M ∈ ns → (∀ a, a ∈ ns → M ≤ a) → Q (.int M t') { s with heap := h', toks := tk }) : wpAny (model prog w) A (call (.builtin "min") [.ref l]) Q E s := by
  obtain ⟨xs, e⟩ := hi.allInts.items
  have hn : numsOf (intItems xs).toList = ns := by rw [← e]; exact hi.numsOf
  rw [nums_intItems] at hn
  subst hn
  rw [e] at hl
  have hsz : 0 < xs.size := by simpa using hne
  refine min_tup hh hl hsz fun v h' tk hv hk => ?_
  obtain ⟨t, rfl⟩ := intItems_at hv
  obtain ⟨h1, h2⟩ := argBest_lt (numAt xs) (xs.size - 1)
  refine h h' tk _ t hk ?_ fun a ha => ?_
  · rw [numAt_eq]
    exact PySem.getD_mem (by rw [List.length_map, Array.length_toList]; omega)
  · obtain ⟨j, hj, rfl⟩ := mem_getD ha
    simp at hj
    rw [← numAt_eq]
    exact h2 j (by omega)
end
section
variable {X : Cx} {K : PySem.W.Frag} {e a b c o : Expr} {es : List Expr} {te ta tb tc to : TE} {t : TA} {ae aa ab ac ao : aE} {at1 : aA} {pos : Pos}
def rMaxT (K : PySem.W.Frag) : List V → Hp → VK → Prop := fun vs H Q => ∃ (a : Addr) (ns : List Int), vs = [V.ref a] ∧ SqT K H a (ns.map V.int) ∧ 0 < ns.length ∧ ∀ m, m ∈ ns → (∀ y, y ∈ ns → y ≤ m) → Q (.int m) H
def rMinT (K : PySem.W.Frag) : List V → Hp → VK → Prop := fun vs H Q => ∃ (a : Addr) (ns : List Int), vs = [V.ref a] ∧ SqT K H a (ns.map V.int) ∧ 0 < ns.length ∧ ∀ m, m ∈ ns → (∀ y, y ∈ ns → m ≤ y) → Q (.int m) H
theorem cr_maxT (hc : X.calm = true) : CallR X (.builtin "max") (rMaxT X.K) := by
  intro pins s σ H vs us Q I r h
  obtain ⟨a, ns, rfl, hs, hne, q⟩ := h
  obtain ⟨its, rv, hl, _⟩ := I.tuple hs
  rw [Vals.ref1 r]
  exact maxT_raw (I.ok.hd hc) (show s.heap.IsTuple a its.toArray from hl) rv.ints hne fun h' tk m t' hk h1 h2 => ⟨.int _, H, I.kept hk, ⟨_, rfl⟩, q m h1 h2⟩
theorem cr_minT (hc : X.calm = true) : CallR X (.builtin "min") (rMinT X.K) := by
  intro pins s σ H vs us Q I r h
  obtain ⟨a, ns, rfl, hs, hne, q⟩ := h
  obtain ⟨its, rv, hl, _⟩ := I.tuple hs
  rw [Vals.ref1 r]
  exact minT_raw (I.ok.hd hc) (show s.heap.IsTuple a its.toArray from hl) rv.ints hne fun h' tk m t' hk h1 h2 => ⟨.int _, H, I.kept hk, ⟨_, rfl⟩, q m h1 h2⟩
def fMaxT : VL := fun ds M Q => match ds with
  | [d] => isL d = false ∧ (match (items d).bind intsD with | some bs => 0 < bs.length ∧ ∀ m, m ∈ bs → (∀ y, y ∈ bs → y ≤ m) → Q (.int m) M | none => False)
  | _ => False
def fMinT : VL := fun ds M Q => match ds with
  | [d] => isL d = false ∧ (match (items d).bind intsD with | some bs => 0 < bs.length ∧ ∀ m, m ∈ bs → (∀ y, y ∈ bs → m ≤ y) → Q (.int m) M | none => False)
  | _ => False
theorem sl_maxT : SL K (rMaxT K) fMaxT := by
  intro E G M N σ H C xs ds rx Q Qc h k
  unfold fMaxT at h
  split at h
  · obtain ⟨v, rfl, r⟩ := rel1 rx
    obtain ⟨h0, h⟩ := h
    split at h
    · rename_i bs hb
      obtain ⟨ys, hi, hb⟩ := Option.bind_eq_some_iff.mp hb
      obtain ⟨a, vs, rfl, r2, h4⟩ := rel_items r hi
      rw [h0] at h4
      have e := ints_rel r2 hb
      subst e
      rcases h4 with ⟨e, _⟩ | ⟨_, h4⟩
      · cases e
      · exact ⟨a, bs, rfl, same_seqT C.cm.sm h4, h.1, fun m h1 h2 => k.at C (h.2 m h1 h2) (.int _)⟩
    · exact h.elim
  · exact h.elim
theorem sl_minT : SL K (rMinT K) fMinT := by
  intro E G M N σ H C xs ds rx Q Qc h k
  unfold fMinT at h
  split at h
  · obtain ⟨v, rfl, r⟩ := rel1 rx
    obtain ⟨h0, h⟩ := h
    split at h
    · rename_i bs hb
      obtain ⟨ys, hi, hb⟩ := Option.bind_eq_some_iff.mp hb
      obtain ⟨a, vs, rfl, r2, h4⟩ := rel_items r hi
      rw [h0] at h4
      have e := ints_rel r2 hb
      subst e
      rcases h4 with ⟨e, _⟩ | ⟨_, h4⟩
      · cases e
      · exact ⟨a, bs, rfl, same_seqT C.cm.sm h4, h.1, fun m h1 h2 => k.at C (h.2 m h1 h2) (.int _)⟩
    · exact h.elim
  · exact h.elim

/-! ### chains -/
def aChain (f g : V2) (x y z : aE) : aE := fun G M Q => x G M fun d M1 => y G M1 fun e M2 => f d e M2 fun r M3 => match r with
  | .bl k => if k = true then z G M3 fun w M4 => g e w M4 Q else Q (.bl false) M3
  | _ => False
theorem se_chain {r r' : R2} {f g : V2} (hr : S2 K r f) (hr' : S2 K r' g) (ha : SE K ta aa) (hb : SE K tb ab) (hc : SE K tc ac) : SE K (tChain r r' ta tb tc) (aChain f g aa ab ac) := by
  intro E G M N σ H C Q Qc h k
  refine ha E G M N σ H C _ _ h fun d v M1 N1 H1 h1 C1 s1 r1 => ?_
  refine hb E G M1 N1 σ H1 C1 _ _ h1 fun e u M2 N2 H2 h2 C2 s2 r2 => ?_
  refine hr E G M2 N2 σ H2 C2 v u d e (r1.mono s2) r2 _ _ h2 fun z zv M3 N3 H3 h3 C3 s3 r3 => ?_
  split at h3
  · rename_i kk
    cases r3
    refine ⟨kk, rfl, ?_⟩
    cases kk with
    | true =>
      rw [if_pos rfl] at h3 ⊢
      refine hc E G M3 N3 σ H3 C3 _ _ h3 fun w wv M4 N4 H4 h4 C4 s4 r4 => ?_
      exact hr' E G M4 N4 σ H4 C4 u wv e w ((r2.mono s3).mono s4) r4 Q Qc h4 (k.from (s1.trans (s2.trans (s3.trans s4))))
    | false =>
      rw [if_neg Bool.false_ne_true] at h3 ⊢
      exact (k.from (s1.trans (s2.trans s3))).at C3 h3 (.bl _)
  · exact h3.elim
theorem de_chain {op op' : CmpOp} {r r' : R2} {f g : V2} (ho : OpR X (compareOp op) r) (hs : S2 X.K r f) (ho' : OpR X (compareOp op') r') (hs' : S2 X.K r' g) (ha : DE X a ta aa) (hb : DE X b tb ab) (hc : DE X c tc ac)
    (hm : lastMarks [op, op'] [b, c] = false := by with_unfolding_all rfl) : DE X (.Compare a [op, op'] [b, c] pos) (tChain r r' ta tb tc) (aChain f g aa ab ac) := ⟨pe_chain ho ho' ha.pe hb.pe hc.pe hm, se_chain hs hs' ha.se hb.se hc.se⟩
theorem dt_chain {op op' : CmpOp} {r r' : R2} {f g : V2} (ho : OpR X (compareOp op) r) (hs : S2 X.K r f) (ho' : OpR X (compareOp op') r') (hs' : S2 X.K r' g) (ha : DE X a ta aa) (hb : DE X b tb ab) (hc : DE X c tc ac)
    (hm : lastMarks [op, op'] [b, c] = false := by with_unfolding_all rfl) : DT X (.Compare a [op, op'] [b, c] pos) (tTest (tChain r r' ta tb tc)) (aTest (aChain f g aa ab ac)) := ⟨pt_chain ho ho' ha.pe hb.pe hc.pe hm, st_test (se_chain hs hs' ha.se hb.se hc.se)⟩

/-! ### slices -/
abbrev aO := Gm → Mp → (Option Int → Mp → Prop) → Prop
def SO (K : PySem.W.Frag) (to : TO) (ao : aO) : Prop := ∀ E G M N σ H, CC K E G M N σ H → ∀ (Q : Option Int → Mp → Prop) (Qc : Option Int → Hp → Prop), ao G M Q → (∀ o M' N' H', Q o M' → CC K E G M' N' σ H' → Same N N' → Qc o H') → to σ H Qc
structure DO (X : Cx) (e : Option Expr) (to : TO) (ao : aO) : Prop where
  po : PO X e to
  so : SO X.K to ao
def aoNone : aO := fun _ M Q => Q none M
def aoSome (x : aE) : aO := fun G M Q => x G M fun d M1 => match d with | .int i => Q (some i) M1 | _ => False
theorem do_none : DO X none tNoPart aoNone := ⟨po_none, fun E G M N σ H C Q Qc q k => k none M N H q C (Same.refl N)⟩
theorem do_some (h : DE X e te ae) : DO X (some e) (tPart te) (aoSome ae) := ⟨po_some h.pe, by
  intro E G M N σ H C Q Qc q k
  refine h.se E G M N σ H C _ _ q fun d v M1 N1 H1 h1 C1 s1 r1 => ?_
  split at h1
  · cases r1
    exact ⟨_, rfl, k _ M1 N1 H1 h1 C1 s1⟩
  · exact h1.elim⟩
def cutD (xs : List D) (lo hi : Option Int) : List D := (xs.drop (HT.sIx xs.length 0 lo)).take (HT.sIx xs.length xs.length hi - HT.sIx xs.length 0 lo)
/-- a slice of a list (a new list), of a text, of a tuple (not the whole of it: that one is the tuple itself) -/
def fSl (d : D) (lo hi : Option Int) (M : Mp) (Q : QD) : Prop := match d with
  | .str z => z.length ≤ 1000000 ∧ Q (.str (cutS z lo hi)) M
  | d => (match itemsM M d with
    | some xs => if isLM d = true then Q (.list (cutD xs lo hi)) M else ¬ (HT.sIx xs.length 0 lo = 0 ∧ HT.sIx xs.length xs.length hi = xs.length) ∧ Q (.tup (cutD xs lo hi)) M
    | none => False)
def fSlM (d : D) (lo hi : Option Int) (M : Mp) (Q : QD) : Prop := match itemsM M d with
  | some xs => isLM d = true ∧ ∀ p, M p = none → Q (.ref p) (mupd M p (.lst (cutD xs lo hi)))
  | none => False
def rSlA (K : PySem.W.Frag) : V → Option Int → Option Int → Hp → VK → Prop := fun x lo hi H Q => rSlL K x lo hi H Q ∨ (fun x lo hi H Q => rSlT K x lo hi H Q ∨ rSlS x lo hi H Q) x lo hi H Q
theorem sl_anyS : SlR X (rSlA X.K) := SlR.or L2.sl_list (SlR.or sl_tup sl_str)
abbrev aSl (f : D → Option Int → Option Int → Mp → QD → Prop) (x : aE) (l u : aO) : aE := fun G M Q => x G M fun d M1 => l G M1 fun lo M2 => u G M2 fun hi M3 => f d lo hi M3 Q
def S3 (K : PySem.W.Frag) (r : V → Option Int → Option Int → Hp → VK → Prop) (f : D → Option Int → Option Int → Mp → QD → Prop) : Prop := ∀ E G M N σ H, CC K E G M N σ H → ∀ x d lo hi, RelD K N x d → ∀ Q Qc, f d lo hi M Q → Co K E G N σ Q Qc → r x lo hi H Qc
theorem se_sl {r : V → Option Int → Option Int → Hp → VK → Prop} {f : D → Option Int → Option Int → Mp → QD → Prop} {tl th : TO} {al ah : aO} (hr : S3 K r f) (h : SE K te ae) (h1 : SO K tl al) (h2 : SO K th ah) : SE K (tSl r te tl th) (aSl f ae al ah) := by
  intro E G M N σ H C Q Qc q k
  refine h E G M N σ H C _ _ q fun d v M1 N1 H1 q1 C1 s1 r1 => ?_
  refine h1 E G M1 N1 σ H1 C1 _ _ q1 fun lo M2 N2 H2 q2 C2 s2 => ?_
  refine h2 E G M2 N2 σ H2 C2 _ _ q2 fun hi M3 N3 H3 q3 C3 s3 => ?_
  exact hr E G M3 N3 σ H3 C3 v d lo hi ((r1.mono s2).mono s3) Q Qc q3 (k.from (s1.trans (s2.trans s3)))
theorem s3_sl : S3 K (rSlA K) fSl := by
  intro E G M N σ H C x d lo hi rx Q Qc h k
  unfold fSl at h
  split at h
  · cases rx
    exact .inr (.inr ⟨_, rfl, big_le h.1, k.at C h.2 (.str _)⟩)
  · split at h
    · rename_i xs hx
      obtain ⟨p, vs, rfl, r2, h4⟩ := rel_itemsM C.cm rx hx
      rcases h4 with ⟨e4, h4⟩ | ⟨e4, h4⟩
      · rw [e4, if_pos rfl] at h
        exact .inl ⟨p, vs, rfl, h4, fun q hq => k.new C hq h fun N' s e => .list e ((r2.cut lo hi).mono s)⟩
      · rw [e4, if_neg Bool.false_ne_true] at h
        refine .inr (.inl ⟨p, vs, rfl, h4, by rw [r2.length]; exact h.1, fun q hq => k.new C hq h.2 fun N' s e => .tup e ((r2.cut lo hi).mono s)⟩)
    · exact h.elim
theorem s3_slM : S3 K (rSlA K) fSlM := by
  intro E G M N σ H C x d lo hi rx Q Qc h k
  unfold fSlM at h
  split at h
  · rename_i xs hx
    obtain ⟨p, vs, rfl, r2, h4⟩ := rel_itemsM C.cm rx hx
    rcases h4 with ⟨e4, h4⟩ | ⟨e4, h4⟩
    · exact .inl ⟨p, vs, rfl, h4, fun q hq => k.newM C hq (hasL upd_same (r2.cut lo hi)) (h.2 q (C.cm.noneM hq))⟩
    · rw [e4] at h; cases h.1
  · exact h.elim
variable {lo hi : Option Expr} {tl th : TO} {al ah : aO} {p2 : Pos}
theorem de_slice (he : DE X e te ae) (hl : DO X lo tl al) (hu : DO X hi th ah) : DE X (.Subscript e (.Slice lo hi none p2) pos) (tSl (rSlA X.K) te tl th) (aSl fSl ae al ah) := ⟨pe_slice sl_anyS he.pe hl.po hu.po, se_sl s3_sl he.se hl.so hu.so⟩
theorem de_sliceM (he : DE X e te ae) (hl : DO X lo tl al) (hu : DO X hi th ah) : DE X (.Subscript e (.Slice lo hi none p2) pos) (tSl (rSlA X.K) te tl th) (aSl fSlM ae al ah) := ⟨pe_slice sl_anyS he.pe hl.po hu.po, se_sl s3_slM he.se hl.so hu.so⟩

/-! ### isinstance -/
def tyIs (t n : String) : Bool := t == n || (t == "bool" && n == "int")
theorem kitB_is : ∀ t ∈ ["NoneType", "bool", "int", "str", "list", "tuple", "dict"], ∀ n ∈ ["bool", "int", "str", "list", "tuple", "dict"], kitB t n = some (tyIs t n) := by decide +kernel
/-- an instance of an own class: what isinstance by a built-in type says of it -/
structure ObT (K : PySem.W.Frag) (C : Addr) : Prop where
  cl : Cls K C
  ha : PySem.W.findIn K (.ref C) "__class__" = some (some (.builtin "object.__class__"))
  hn : PySem.W.specialIn K (.builtin "object.__class__") "__get__" = some (some (.builtin "getset_descriptor.__get__"))
  htk : PySem.W.takesIn K (.builtin "object.__class__") = some true
  hm : PySem.W.mroIn K C (.type "object") = some true
  no : ∀ n ∈ ["bool", "int", "str", "list", "tuple", "dict"], PySem.W.kitOne K (.ref C) (.type n) = some false
def tyNames : List String := ["bool", "int", "str", "list", "tuple", "dict"]
def isiD (K : PySem.W.Frag) (M : Mp) (d : D) (n : String) (Q : Bool → Prop) : Prop := n ∈ tyNames ∧ (match d with
  | .obj C _ => ObT K C ∧ Q false
  | d => (match tyD M d with | some t => Q (tyIs t n) | none => False))
theorem ty_rel {M : Mp} {N H : Hp} {v : V} {d : D} {t : String} (c : CM K M N H) (r : RelD K N v d) (h : tyD M d = some t) : TyX K H v (.type t) ∧ t ∈ ["NoneType", "bool", "int", "str", "list", "tuple", "dict"] := by
  have seqL : ∀ {a xs}, SqL K H a xs → TyX K H (.ref a) (.type "list") := fun {a xs} h => by
    rcases h with (h | ⟨o, h⟩) | ⟨o, its, n, h1, h2, _⟩
    · exact .base (.lst h)
    · exact .base (.frz h)
    · exact .kList h1 h2
  have seqT : ∀ {a xs}, SqT K H a xs → TyX K H (.ref a) (.type "tuple") := fun {a xs} h => by
    rcases h with (h | ⟨o, h⟩) | ⟨o, its, n, h1, h2, _⟩
    · exact .base (.tup h)
    · exact .fTuple h
    · exact .kTuple h1 h2
  cases r <;> simp only [tyD] at h
  case non => cases h; exact ⟨.base .non, by decide⟩
  case bl => cases h; exact ⟨.base (.bl _), by decide⟩
  case int => cases h; exact ⟨.base (.int _), by decide⟩
  case str => cases h; exact ⟨.base (.str _), by decide⟩
  case ty => cases h
  case list h1 r1 => cases h; exact ⟨.base (.lst (c.sm _ _ h1)), by decide⟩
  case rol h1 r1 => cases h; exact ⟨seqL (c.sm.seq h1), by decide⟩
  case tup h1 r1 => cases h; exact ⟨.base (.tup (c.sm _ _ h1)), by decide⟩
  case rot h1 r1 => cases h; exact ⟨seqT (same_seqT c.sm h1), by decide⟩
  case obj => cases h
  case dK => cases h
  case dT => cases h
  case ref a =>
    split at h
    · rename_i e
      cases h
      obtain ⟨xs, h1, _⟩ := c.lst e
      exact ⟨.base (.lst h1), by decide⟩
    · rename_i e
      cases h
      obtain ⟨xs, h1, _⟩ := c.dKs e
      exact ⟨.base (.dK h1), by decide⟩
    · rename_i e
      cases h
      obtain ⟨xs, h1, _⟩ := c.dTs e
      exact ⟨.base (.dT h1), by decide⟩
    · cases h
/-- the type and isinstance's answers for every built-in class -/
theorem isi_rel {M : Mp} {N H : Hp} {v : V} {d : D} {n : String} {Q : Bool → Prop} (c : CM K M N H) (r : RelD K N v d) (h : isiD K M d n Q) : ∃ t b, TyX K H v t ∧ PySem.W.kitOne K t (.type n) = some b ∧ Q b := by
  obtain ⟨hn, h⟩ := h
  split at h
  · obtain ⟨a, dx, fs, rfl, h1, r1⟩ := rel_obj r
    exact ⟨_, false, .base (.ins (c.sm _ _ h1) h.1.cl h.1.ha h.1.hn h.1.htk h.1.hm), h.1.no n hn, h.2⟩
  · split at h
    · rename_i t ht
      obtain ⟨h1, h2⟩ := ty_rel c r ht
      exact ⟨_, _, h1, kit_ty (kitB_is t h2 n hn), h⟩
    · exact h.elim
def fIsi (K : PySem.W.Frag) : VL := fun ds M Q => match ds with
  | [d, .ty n] => isiD K M d n fun b => Q (.bl b) M
  | _ => False
theorem sl_isi : SL K (rIsi K) (fIsi K) := by
  intro E G M N σ H C xs ds rx Q Qc h k
  unfold fIsi at h
  split at h
  · rename_i d n
    obtain ⟨v, w, rfl, r, r2⟩ := rel2 rx
    cases r2
    obtain ⟨t, b, h1, h2, h3⟩ := isi_rel C.cm r h
    exact ⟨v, .ty n, t, .type n, b, rfl, .ty n, h1, h2, k.at C h3 (.bl _)⟩
  · exact h.elim
def tysOf : List D → Option (List String)
  | [] => some []
  | .ty n :: r => (tysOf r).map (n :: ·)
  | _ :: _ => none
theorem tys_rel {N : Hp} : ∀ {vs : List V} {ds : List D} {ns : List String}, RelL K N vs ds → tysOf ds = some ns → vs = ns.map V.ty
  | _, _, ns, .nil, h => by simp [tysOf] at h; subst h; rfl
  | _, _, ns, .cons h1 r, h => by
    cases h1 <;> simp [tysOf] at h
    obtain ⟨ns', h2, rfl⟩ := h
    rw [tys_rel r h2]
    rfl
/-- isinstance(x, (T, ..)) by built-in types -/
def fIsiT (K : PySem.W.Frag) : VL := fun ds M Q => match ds with
  | [d, .tup ts] => (match tysOf ts with
    | some ns => ns.all (fun n => tyNames.contains n) = true ∧ (match d with
      | .obj C _ => ObT K C ∧ Q (.bl false) M
      | d => (match tyD M d with | some t => Q (.bl (ns.any fun n => tyIs t n)) M | none => False))
    | none => False)
  | _ => False
theorem clsVs : ∀ ns : List String, Paired ClsV (ns.map V.ty) (ns.map Value.type)
  | [] => .nil
  | n :: ns => .cons (.ty n) (clsVs ns)
theorem kitAny_tys {t : Value} {f : String → Bool} : ∀ (ns : List String), (∀ n ∈ ns, PySem.W.kitOne K t (.type n) = some (f n)) → PySem.W.kitAny K t (ns.map Value.type) = some (ns.any f)
  | [], _ => kitAny_nil
  | n :: ns, h => by
    refine kitAny_cons (h n (by simp)) (fun e => ?_) (fun e => by simp [e])
    rw [List.any_cons, e, Bool.false_or]
    exact kitAny_tys ns fun m hm => h m (by simp [hm])
theorem sl_isiT : SL K (rIsiT K) (fIsiT K) := by
  intro E G M N σ H C xs ds rx Q Qc h k
  unfold fIsiT at h
  split at h
  · rename_i d ts
    obtain ⟨v, w, rfl, r, r2⟩ := rel2 rx
    obtain ⟨a, cs, rfl, h1, r1⟩ := rel_tup r2
    split at h
    · rename_i ns hns
      have e := tys_rel r1 hns
      subst e
      obtain ⟨hall, h⟩ := h
      have hall' : ∀ n ∈ ns, n ∈ tyNames := fun n hn => by
        have := List.all_eq_true.mp hall n hn
        simpa using this
      split at h
      · obtain ⟨b, dx, fs, rfl, h2, r3⟩ := rel_obj r
        obtain ⟨ho, h⟩ := h
        refine ⟨_, a, _, _, _, false, rfl, C.cm.sm _ _ h1, clsVs ns, .base (.ins (C.cm.sm _ _ h2) ho.cl ho.ha ho.hn ho.htk ho.hm), ?_, k.at C h (.bl _)⟩
        rw [kitAny_tys (f := fun _ => false) ns fun n hn => ho.no n (hall' n hn)]
        simp
      · split at h
        · rename_i t ht
          obtain ⟨h3, h4⟩ := ty_rel C.cm r ht
          exact ⟨v, a, _, _, _, _, rfl, C.cm.sm _ _ h1, clsVs ns, h3, kitAny_tys ns fun n hn => kit_ty (kitB_is t h4 n (hall' n hn)), k.at C h (.bl _)⟩
        · exact h.elim
    · exact h.elim
  · exact h.elim
end
end DL

set_option Elab.async false
set_option linter.all false
set_option maxRecDepth 100000
namespace DL
open PySem PySem.Spec PyProof.Rows L2
/-! ### dict displays -/
def mergeT (kvs more : List (List Key × V)) : List (List Key × V) := more.foldl (fun acc kv => putK acc kv.1 kv.2) kvs
theorem length_mergeT : ∀ (more kvs : List (List Key × V)), (mergeT kvs more).length ≤ kvs.length + more.length
  | [], kvs => by simp [mergeT]
  | (k, v) :: more, kvs => by
    have h := length_mergeT more (putK kvs k v)
    have h2 := length_putK kvs k v
    show (mergeT (putK kvs k v) more).length ≤ _
    rw [List.length_cons]
    omega
/-- the pairs of a display, their keys tuples that stand -/
inductive PairsT (H : Hp) : List (V × V) → List (List Key × V) → Prop
  | nil : PairsT H [] []
  | cons {b : Addr} {k : List Key} {v : V} {ps : List (V × V)} {kvs : List (List Key × V)} : H b = some (.tup (k.map kV)) → PairsT H ps kvs → PairsT H ((.ref b, v) :: ps) ((k, v) :: kvs)
theorem PairsT.length {H : Hp} : ∀ {ps : List (V × V)} {kvs : List (List Key × V)}, PairsT H ps kvs → ps.length = kvs.length
  | _, _, .nil => rfl
  | _, _, .cons _ r => by simp [PairsT.length r]
theorem pairsT_carry {P : Program} {w : World} {H : Hp} {h : Heap} (ok : HOk P w H h) : ∀ {ps : List (V × V)} {kvs : List (List Key × V)} {ws : List (Value × Value)}, PairsT H ps kvs → VV ps ws →
    ∃ xs : List (List Key × Addr × Value), CarriesH (tupleKind (mixKind P w)) h ws xs ∧ KT H kvs xs
  | _, _, _, .nil, .nil => ⟨[], trivial, .nil⟩
  | _, _, _, .cons (b := b) (k := k) hb r, .cons (b := q) (l₂ := qs) hq rq => by
    obtain ⟨xs, c, t⟩ := pairsT_carry ok r rq
    obtain ⟨kv, vv⟩ := q
    obtain ⟨h1, h2⟩ := hq
    obtain rfl : kv = Value.ref b := h1
    exact ⟨(k, b, vv) :: xs, ⟨rfl, rfl, key_of ok hb, c⟩, .cons ⟨rfl, hb, h2⟩ t⟩
theorem KT.all {H : Hp} : ∀ {more : List (List Key × V)} {xs : List (List Key × Addr × Value)} {kvs : List (List Key × V)} {ys : List (List Key × Addr × Value)}, KT H more xs → KT H kvs ys → KT H (mergeT kvs more) (storedAllH ys xs)
  | _, _, _, _, .nil, r => r
  | _, _, kvs, ys, .cons (a := p) (b := q) (l₁ := more) (l₂ := xs) h t, r => by
    obtain ⟨k, v⟩ := p
    obtain ⟨k', b, u⟩ := q
    obtain ⟨rfl, hb, hv⟩ := h
    exact KT.all (kvs := putK kvs k v) (ys := storedH ys k b u) t (KT.put r k hb hv)
def tDispT (trs : List (TE × TE)) : TE := fun σ H Q => ∀ p, H p = none → tPairs trs σ (upd H p (.dT [])) fun ps H2 => H2 p = some (.dT []) ∧ ∃ kvs : List (List Key × V), PairsT H2 ps kvs ∧ kvs.length ≤ 15 ∧ Q (.ref p) (upd H2 p (.dT (mergeT [] kvs)))
theorem pe_dispT {X : Cx} {pos : Pos} {keys : List (Option Expr)} {values : List Expr} {trs : List (TE × TE)} (hu : X.A.units + 1 < cLine) (h : PPs X pos keys values trs) (hall : keys.all (·.isSome) = true := by rfl) (hl : keys.length = values.length := by rfl) (h0 : keys ≠ [] := by simp)
    (h15 : keys.length ≤ 15 := by decide) : PE X (.Dict keys values pos) (tDispT trs) := by
  refine ⟨fun pins s σ H Q I q => ?_⟩
  have hn := I.hok.fresh (Nat.le_refl s.heap.objs.size)
  have I1 := I.laid (a := s.heap.objs.size) (o := .dT []) (h' := s.heap.push { cls := .type "dict", data := .dict #[] }) (t' := s.toks) (fun _ _ q => Heap.get?_push_of_some _ q) (Nat.le_refl _) (dt_empty s.heap I.big)
  have hlen := pairTrees_length keys values X.env pos hall hl
  rw [arm_eval_Dict, zip_pairTrees keys values X.env pos hall hl, dictDisplay_pairs _ (fun e => h0 (List.length_eq_zero_iff.mp (by rw [← hlen, e]; rfl))) (by omega)]
  refine wpAny_bind (wpAny_standAt (wpAny_bind (wpAny_subDictH (knd := tupleKind (mixKind X.prog X.w)) (Q := fun d s' => wpAny (model X.prog X.w) X.A (pure (Value.ref d)) (EP X pins σ Q) X.xe s') (show X.A.units < cLine by omega) (by omega) ?_)))
  refine thn (h.run pins _ σ _ _ I1 (q _ hn)) fun ws s2 ⟨ps, H2, I2, rel, e, kvs, ep, lk, q2⟩ => ?_
  obtain ⟨xs, c, rk⟩ := pairsT_carry I2.hok ep rel
  obtain ⟨z, hd, ys, r0, dd⟩ := dt_of I2.hok e
  cases r0
  refine ⟨xs, c, dd, fun h' tk dd' hs => wpAny_pure ⟨.ref s.heap.objs.size, _, ?_, rfl, q2⟩⟩
  have hz : (mergeT [] kvs).length ≤ sizeLine := by
    have h1 := length_mergeT kvs []
    rw [List.length_nil] at h1
    rw [sizeLine_eq]; omega
  obtain ⟨o, es, ep', hq, h2, h3, h4, _, h5⟩ := dd'
  refine d_write I2 (by rw [e]; exact True.intro) hs ⟨o, hq⟩ ⟨hz, hd, _, ((KT.all rk .nil).keeps fun c ys ec => ?_), o, es, ep', hq, h2, h3, h4, h5⟩
  rw [upd_ne (ne_of ec e (fun z => nomatch z))]
  exact ec
/-! ### displays over data -/
def aPairs : List (aE × aE) → Gm → Mp → (List (D × D) → Mp → Prop) → Prop
  | [], _, M, Q => Q [] M
  | (x, y) :: r, G, M, Q => x G M fun d M1 => y G M1 fun e M2 => aPairs r G M2 fun ps M3 => Q ((d, e) :: ps) M3
inductive RelP (K : PySem.W.Frag) (N : Hp) : List (V × V) → List (D × D) → Prop
  | nil : RelP K N [] []
  | cons {x y : V} {d e : D} {ps : List (V × V)} {qs : List (D × D)} : RelD K N x d → RelD K N y e → RelP K N ps qs → RelP K N ((x, y) :: ps) ((d, e) :: qs)
section
variable {X : Cx} {K : PySem.W.Frag} {pos : Pos}
def SPs (K : PySem.W.Frag) (trs : List (TE × TE)) (as : List (aE × aE)) : Prop := ∀ E G M N σ H, CC K E G M N σ H → ∀ (Q : List (D × D) → Mp → Prop) (Qc : List (V × V) → Hp → Prop), aPairs as G M Q →
  (∀ ds ps M' N' H', Q ds M' → CC K E G M' N' σ H' → Same N N' → RelP K N' ps ds → Qc ps H') → tPairs trs σ H Qc
structure DPs (X : Cx) (pos : Pos) (keys : List (Option Expr)) (values : List Expr) (trs : List (TE × TE)) (as : List (aE × aE)) : Prop where
  pp : PPs X pos keys values trs
  sp : SPs X.K trs as
theorem dps_nil : DPs X pos [] [] [] [] := ⟨pps_nil, fun E G M N σ H C Q Qc q k => k [] [] M N H q C (Same.refl N) .nil⟩
theorem dps_cons {k v : Expr} {ks : List (Option Expr)} {vs : List Expr} {tk tv : TE} {ak av : aE} {trs : List (TE × TE)} {as : List (aE × aE)} (hk : DE X k tk ak) (hv : DE X v tv av) (hr : DPs X pos ks vs trs as) :
    DPs X pos (some k :: ks) (v :: vs) ((tk, tv) :: trs) ((ak, av) :: as) := ⟨pps_cons hk.pe hv.pe hr.pp, by
  intro E G M N σ H C Q Qc q k
  refine hk.se E G M N σ H C _ _ q fun d x M1 N1 H1 h1 C1 s1 r1 => ?_
  refine hv.se E G M1 N1 σ H1 C1 _ _ h1 fun e y M2 N2 H2 h2 C2 s2 r2 => ?_
  refine hr.sp E G M2 N2 σ H2 C2 _ _ h2 fun ds ps M3 N3 H3 h3 C3 s3 r3 => ?_
  exact k _ _ M3 N3 H3 h3 C3 (s1.trans (s2.trans s3)) (.cons ((r1.mono s2).mono s3) (r2.mono s3) r3)⟩
def keyPs : List (D × D) → Option (List (Key × D))
  | [] => some []
  | (d, e) :: r => match keyOf d, keyPs r with
    | some k, some ks => some ((k, e) :: ks)
    | _, _ => none
def keyTs : List (D × D) → Option (List (List Key × D))
  | [] => some []
  | (d, e) :: r => match keyT d, keyTs r with
    | some k, some ks => some ((k, e) :: ks)
    | _, _ => none
def mergeD {k : Type} [DecidableEq k] (gs more : List (k × D)) : List (k × D) := more.foldl (fun acc kv => putD acc kv.1 kv.2) gs
theorem RelF.merge {N : Hp} : ∀ {more : List (Key × V)} {ms : List (Key × D)} {kvs : List (Key × V)} {gs : List (Key × D)}, RelF K N more ms → RelF K N kvs gs → RelF K N (mergeK kvs more) (mergeD gs ms)
  | _, _, _, _, .nil, r => r
  | _, _, kvs, gs, .cons (x := x) (v := v) (d := d) (vs := vs) (ds := ds) h t, r => RelF.merge (kvs := putK kvs x v) (gs := putD gs x d) t (r.put x h)
theorem RelF.mergeT {N : Hp} : ∀ {more : List (List Key × V)} {ms : List (List Key × D)} {kvs : List (List Key × V)} {gs : List (List Key × D)}, RelF K N more ms → RelF K N kvs gs → RelF K N (DL.mergeT kvs more) (mergeD gs ms)
  | _, _, _, _, .nil, r => r
  | _, _, kvs, gs, .cons (x := x) (v := v) (d := d) (vs := vs) (ds := ds) h t, r => RelF.mergeT (kvs := putK kvs x v) (gs := putD gs x d) t (r.put x h)
theorem keyPs_rel {N : Hp} : ∀ {ps : List (V × V)} {qs : List (D × D)} {ms : List (Key × D)}, RelP K N ps qs → keyPs qs = some ms → ∃ kvs : List (Key × V), ps = kvs.map (fun kv => (kV kv.1, kv.2)) ∧ RelF K N kvs ms
  | _, _, ms, .nil, h => by simp [keyPs] at h; subst h; exact ⟨[], rfl, .nil⟩
  | _, _, ms, .cons h1 h2 r, h => by
    unfold keyPs at h
    split at h
    · rename_i k ks e1 e2
      cases h
      obtain ⟨kvs, rfl, r'⟩ := keyPs_rel r e2
      have e3 := key_rel h1 e1
      subst e3
      exact ⟨(k, _) :: kvs, rfl, .cons h2 r'⟩
    · cases h
theorem keyTs_rel {N H : Hp} (sm : Same N H) : ∀ {ps : List (V × V)} {qs : List (D × D)} {ms : List (List Key × D)}, RelP K N ps qs → keyTs qs = some ms → ∃ kvs : List (List Key × V), PairsT H ps kvs ∧ RelF K N kvs ms
  | _, _, ms, .nil, h => by simp [keyTs] at h; subst h; exact ⟨[], .nil, .nil⟩
  | _, _, ms, .cons h1 h2 r, h => by
    unfold keyTs at h
    split at h
    · rename_i k ks e1 e2
      cases h
      obtain ⟨kvs, q, r'⟩ := keyTs_rel sm r e2
      obtain ⟨b, rfl, hb⟩ := keyT_rel h1 e1
      exact ⟨(k, _) :: kvs, .cons (sm _ _ hb) q, .cons h2 r'⟩
    · cases h
def aDispKM (as : List (aE × aE)) : aE := fun G M Q => aPairs as G M fun qs M1 => match keyPs qs with
  | some ms => ms.length ≤ 15 ∧ ∀ p, M1 p = none → Q (.ref p) (mupd M1 p (.dK (mergeD [] ms)))
  | none => False
def aDispTM (as : List (aE × aE)) : aE := fun G M Q => aPairs as G M fun qs M1 => match keyTs qs with
  | some ms => ms.length ≤ 15 ∧ ∀ p, M1 p = none → Q (.ref p) (mupd M1 p (.dT (mergeD [] ms)))
  | none => False
/-- an object that nobody knows of stands behind a run as it stood -/
theorem foreign {E : En} {G : Gm} {M : Mp} {N H : Hp} {σ : L2.St} (C : CC K E G M N σ H) {p : Addr} (o : HO) (hp : H p = none) : CC K ⟨M, N, upd H p o⟩ G M N σ (upd H p o) ∧ Fr M N H M N (upd H p o) := by
  have hN := (C.cm.none hp).1
  refine ⟨⟨.refl, ⟨fun a u e => by rw [upd_ne (ne_of_none e hN)]; exact C.cm.sm _ _ e, fun a c e => ?_⟩, C.sl⟩, ⟨Same.refl _, fun a u e m => ⟨by rw [upd_ne (ne_of_none e hp)]; exact e, m⟩, fun a u e n => n, fun a u e => ⟨u, by rw [upd_ne (ne_of_none e hp)]; exact e⟩⟩⟩
  obtain ⟨x1, x2⟩ := C.cm.hm a c e
  exact ⟨x1, x2.mono (Same.refl _) fun o e => by rw [upd_ne (ne_of_none e hp)]; exact e⟩
theorem unforeign {E : En} {G : Gm} {M M' : Mp} {N N' H H' : Hp} {σ : L2.St} (C : CC K E G M N σ H) {p : Addr} {o o' : HO} {c : MC} (hp : H p = none) (C' : CC K ⟨M, N, upd H p o⟩ G M' N' σ H') (hc : HasM K N' (upd H' p o') p c) :
    CC K E G (mupd M' p c) N' σ (upd H' p o') ∧ H' p = some o := by
  obtain ⟨hN, hM⟩ := C.cm.none hp
  obtain ⟨y1, y2⟩ := C'.fr.keep p o upd_same hM
  have y3 := C'.fr.new p o upd_same hN
  have f0 := (foreign C o hp).2.trans C'.fr
  refine ⟨⟨C.fr.trans ⟨f0.nn, fun a u e m => ?_, f0.new, fun a u e => ?_⟩, cm_put C'.cm y3 hc, C'.sl⟩, y1⟩
  · have q := ne_of_none e hp
    obtain ⟨z1, z2⟩ := f0.keep a u e m
    exact ⟨by rw [upd_ne q]; exact z1, by rw [mupd_ne q]; exact z2⟩
  · have q := ne_of_none e hp
    obtain ⟨o2, z⟩ := f0.dom a u e
    exact ⟨o2, by rw [upd_ne q]; exact z⟩
variable {keys : List (Option Expr)} {values : List Expr} {trs : List (TE × TE)} {as : List (aE × aE)}
theorem de_dispK (h : DPs X pos keys values trs as) (hall : keys.all (·.isSome) = true := by rfl) (hl : keys.length = values.length := by rfl) (h0 : keys ≠ [] := by simp) (h15 : keys.length ≤ 15 := by decide) :
    DE X (.Dict keys values pos) (tDisp trs) (aDispKM as) := ⟨pe_disp h.pp hall hl h0 h15, by
  intro E G M N σ H C Q Qc q k p hp
  refine h.sp _ G M N σ _ (foreign C (.dK []) hp).1 _ _ q fun qs ps M1 N1 H1 h1 C1 s1 r1 => ?_
  split at h1
  · rename_i ms hms
    obtain ⟨kvs, rfl, rf⟩ := keyPs_rel r1 hms
    have r2 : RelF X.K N1 (mergeK [] kvs) (mergeD [] ms) := rf.merge .nil
    obtain ⟨C2, e2⟩ := unforeign C hp C1 (hasK (N := N1) (H := upd H1 p (.dK (mergeK [] kvs))) upd_same r2)
    refine ⟨e2, kvs, rfl, by rw [rf.length]; exact h1.1, ?_⟩
    exact k (.ref p) (.ref p) _ N1 _ (h1.2 p ((C1.fr.keep p _ upd_same (C.cm.none hp).2).2)) C2 s1 (.ref p)
  · exact h1.elim⟩
theorem de_dispT (hu : X.A.units + 1 < cLine) (h : DPs X pos keys values trs as) (hall : keys.all (·.isSome) = true := by rfl) (hl : keys.length = values.length := by rfl) (h0 : keys ≠ [] := by simp) (h15 : keys.length ≤ 15 := by decide) :
    DE X (.Dict keys values pos) (tDispT trs) (aDispTM as) := ⟨pe_dispT hu h.pp hall hl h0 h15, by
  intro E G M N σ H C Q Qc q k p hp
  refine h.sp _ G M N σ _ (foreign C (.dT []) hp).1 _ _ q fun qs ps M1 N1 H1 h1 C1 s1 r1 => ?_
  split at h1
  · rename_i ms hms
    obtain ⟨kvs, pt, rf⟩ := keyTs_rel C1.cm.sm r1 hms
    have r2 : RelF X.K N1 (DL.mergeT [] kvs) (mergeD [] ms) := rf.mergeT .nil
    obtain ⟨C2, e2⟩ := unforeign C hp C1 (hasT (N := N1) (H := upd H1 p (.dT (DL.mergeT [] kvs))) upd_same r2)
    refine ⟨e2, kvs, pt, by rw [rf.length]; exact h1.1, ?_⟩
    exact k (.ref p) (.ref p) _ N1 _ (h1.2 p ((C1.fr.keep p _ upd_same (C.cm.none hp).2).2)) C2 s1 (.ref p)
  · exact h1.elim⟩

/-! ### calls with keywords -/
variable {CX : CXT} {k n m : Nat} {g : Addr} {fd : FuncData} {ps ks : List Str} {sp : aSp} {x : Str} {p : Pos} {E0' : XK} {e : Expr} {es : List Expr} {kws : List Keyword} {t tk : TA} {at1 ak : aA}
theorem pe_callK0 {sp' : Sp} {gV' : List Value → List Value → List Value} {gV : List V → List V → List V} (F : FnOk X.prog X.w X.K X.mg X.base CX k g fd ps sp') (hr : Room k X.A) (hg : Gl X x) (hm : X.mg x = some (.ref g)) (hk : PySem.W.keepIn X.K (.ref g) = true) (hb : KBn X.K fd ps 0 ks gV' gV) (hx : Passes CX X E0')
    (hkw : PK X kws tk) (hall : (backToKw pos (keywordEach kws X.env)).all (·.1.isSome) = true := by rfl) (hks : (backToKw pos (keywordEach kws X.env)).filterMap (·.1) = ks := by rfl) (hdb : (x == ("__debug__" : Str)) = false := by decide)
    (hpl : ((backTo pos (starEach [] X.env)).any (·.1) || (backToKw pos (keywordEach kws X.env)).any (·.1.isNone)) = false := by rfl) :
    PE X (.Call (.Name x p) [] kws pos) (tCallN 0 ks.length sp' gV E0' tNil tk) := by
  refine ⟨fun pins s σ H Q I h => wpAny_Call_Name_kw (ld_glob I hg hm ?_ hdb)⟩
  refine PySem.W.callWith_KW0 (h₀ := X.base) I.ok.mod.kin hk hall (thn (hkw.run pos pins s σ H _ I h) fun ws s2 ⟨zs, H2, I2, rz, l1, l2, q2⟩ => ⟨I2.kIn, ?_⟩) hpl
  rw [hks]
  exact run_fnN (us := []) (vs := []) F hr hb hx I2 .nil rz rfl l2 q2
def aCallN (n m nn : Nat) (sp : aSp) (gD : List D → List D → List D) (x y : aA) : aE := fun G M Q => x G M fun ds M1 => y G M1 fun es M2 => ds.length = n ∧ es.length = m ∧ (gD ds es).length = nn ∧ sp (gD ds es) M2 Q
theorem se_callN {nn : Nat} {gV : List V → List V → List V} {gD : List D → List D → List D} (hgd : ∀ (N : Hp) vs ds ws es, RelL K N vs ds → RelL K N ws es → ds.length = n → es.length = m → RelL K N (gV vs ws) (gD ds es))
    (ha : SA K t at1) (hkw : SA K tk ak) : SE K (tCallN n m (lift K nn sp) gV E0' t tk) (aCallN n m nn sp gD at1 ak) := by
  intro E G M N σ H C Q Qc q k
  refine ha E G M N σ H C _ _ q fun ds vs M1 N1 H1 h1 C1 s1 r1 => ?_
  refine hkw E G M1 N1 σ H1 C1 _ _ h1 fun es ws M2 N2 H2 h2 C2 s2 r2 => ?_
  obtain ⟨l1, l2, l3, h2⟩ := h2
  refine ⟨by rw [r1.length]; exact l1, by rw [r2.length]; exact l2, ?_⟩
  exact ⟨gD ds es, M2, N2, Q, l3, C2.cm, hgd _ _ _ _ _ (r1.mono s2) r2 l1 l2, h2, fun d v M' N' H' q' fr cm r => (k.from (s1.trans s2)) d v M' N' H' q' (C2.step fr cm) fr.nn r⟩
theorem de_callK0 {nn : Nat} {gV' : List Value → List Value → List Value} {gV : List V → List V → List V} {gD : List D → List D → List D} (hgd : ∀ (N : Hp) vs ds ws es, RelL X.K N vs ds → RelL X.K N ws es → ds.length = 0 → es.length = ks.length → RelL X.K N (gV vs ws) (gD ds es))
    (F : FnOk X.prog X.w X.K X.mg X.base CX k g fd ps (lift X.K nn sp)) (hr : Room k X.A) (hg : Gl X x) (hm : X.mg x = some (.ref g)) (hk : PySem.W.keepIn X.K (.ref g) = true) (hb : KBn X.K fd ps 0 ks gV' gV) (hx : Passes CX X E0')
    (hkw : DK X kws tk ak) (hall : (backToKw pos (keywordEach kws X.env)).all (·.1.isSome) = true := by rfl) (hks : (backToKw pos (keywordEach kws X.env)).filterMap (·.1) = ks := by rfl) (hdb : (x == ("__debug__" : Str)) = false := by decide)
    (hpl : ((backTo pos (starEach [] X.env)).any (·.1) || (backToKw pos (keywordEach kws X.env)).any (·.1.isNone)) = false := by rfl) :
    DE X (.Call (.Name x p) [] kws pos) (tCallN 0 ks.length (lift X.K nn sp) gV E0' tNil tk) (aCallN 0 ks.length nn sp gD aNil ak) := ⟨pe_callK0 F hr hg hm hk hb hx hkw.pk hall hks hdb hpl, se_callN hgd sa_nil hkw.sa⟩
theorem de_callN {nn : Nat} {gV' : List Value → List Value → List Value} {gV : List V → List V → List V} {gD : List D → List D → List D} (hgd : ∀ (N : Hp) vs ds ws es, RelL X.K N vs ds → RelL X.K N ws es → ds.length = n → es.length = ks.length → RelL X.K N (gV vs ws) (gD ds es))
    (F : FnOk X.prog X.w X.K X.mg X.base CX k g fd ps (lift X.K nn sp)) (hr : Room k X.A) (hg : Gl X x) (hm : X.mg x = some (.ref g)) (hk : PySem.W.keepIn X.K (.ref g) = true) (hb : KBn X.K fd ps n ks gV' gV) (hx : Passes CX X E0')
    (ha : DA X (e :: es) t at1) (hkw : DK X kws tk ak) (hall : (backToKw pos (keywordEach kws X.env)).all (·.1.isSome) = true := by rfl) (hks : (backToKw pos (keywordEach kws X.env)).filterMap (·.1) = ks := by rfl)
    (hdb : (x == ("__debug__" : Str)) = false := by decide) (he : starEach (e :: es) X.env = (false, eval e X.env) :: starEach es X.env := by rfl)
    (hpl : ((backTo pos (starEach (e :: es) X.env)).any (·.1) || (backToKw pos (keywordEach kws X.env)).any (·.1.isNone)) = false := by rfl) :
    DE X (.Call (.Name x p) (e :: es) kws pos) (tCallN n ks.length (lift X.K nn sp) gV E0' t tk) (aCallN n ks.length nn sp gD at1 ak) := ⟨pe_callN F hr hg hm hk hb hx ha.pa hkw.pk hall hks hdb he hpl, se_callN hgd ha.sa hkw.sa⟩
end
end DL

set_option Elab.async false
set_option linter.all false
set_option maxRecDepth 100000
namespace DL
open PySem PySem.Spec PyProof.Rows L2
theorem atI_nn {α : Type} (xs : List α) {i : Int} (h : 0 ≤ i) : atI xs i = xs[i.toNat]? := by
  unfold atI ixN
  rw [if_pos h]
  by_cases q : i < xs.length
  · rw [if_pos q]; rfl
  · rw [if_neg q, List.getElem?_eq_none (by omega)]; rfl
theorem atI_c {α : Type} (xs : List α) (j : Nat) : atI xs (j : Int) = xs[j]? := by rw [atI_nn xs (Int.natCast_nonneg j)]; rfl
theorem atI_0 {α : Type} (xs : List α) : atI xs 0 = xs[0]? := atI_c xs 0
theorem atI_1 {α : Type} (xs : List α) : atI xs 1 = xs[1]? := atI_c xs 1
theorem atI_2 {α : Type} (xs : List α) : atI xs 2 = xs[2]? := atI_c xs 2
theorem atI_3 {α : Type} (xs : List α) : atI xs 3 = xs[3]? := atI_c xs 3
theorem atI_4 {α : Type} (xs : List α) : atI xs 4 = xs[4]? := atI_c xs 4
theorem atI_5 {α : Type} (xs : List α) : atI xs 5 = xs[5]? := atI_c xs 5
theorem ixN_c {n j : Nat} (h : j < n) : ixN n (j : Int) = some j := by
  unfold ixN
  rw [if_pos (Int.natCast_nonneg j), if_pos (by omega)]; rfl
theorem ixN_nn {n : Nat} {i : Int} (h : 0 ≤ i) (h' : i < n) : ixN n i = some i.toNat := by
  unfold ixN
  rw [if_pos h, if_pos h']
theorem snap_i (M : Mp) (i : Int) : snap M (.int i) = .int i := rfl
theorem snap_b (M : Mp) (i : Bool) : snap M (.bl i) = .bl i := rfl
theorem snap_s (M : Mp) (i : Str) : snap M (.str i) = .str i := rfl
theorem snap_n (M : Mp) : snap M .non = .non := rfl
theorem snap_l (M : Mp) (xs : List D) : snap M (.list xs) = .list xs := rfl
theorem snap_t (M : Mp) (xs : List D) : snap M (.tup xs) = .tup xs := rfl
theorem eqOk_i (i : Int) : eqOk 9 (.int i) = true := rfl
theorem eqOk_b (i : Bool) : eqOk 9 (.bl i) = true := rfl
theorem eqOk_n : eqOk 9 .non = true := rfl
theorem eqv_i (i j : Int) : eqv (.int i) (.int j) = (i == j) := rfl
theorem eqv_b (i j : Bool) : eqv (.bl i) (.bl j) = (i == j) := rfl
theorem eqv_s (i j : Str) : eqv (.str i) (.str j) = (i == j) := rfl
theorem RelL.split {K : PySem.W.Frag} {N : Hp} {vs : List V} {ds : List D} {n : Nat} (r : RelL K N vs ds) (h : ds.length = n + 1) : ∃ v vs' d ds', vs = v :: vs' ∧ ds = d :: ds' ∧ RelD K N v d ∧ RelL K N vs' ds' ∧ ds'.length = n := by
  cases r with
  | nil => simp at h
  | cons a b => exact ⟨_, _, _, _, rfl, rfl, a, b, by simpa using h⟩
theorem RelL.split0 {K : PySem.W.Frag} {N : Hp} {vs : List V} {ds : List D} (r : RelL K N vs ds) (h : ds.length = 0) : vs = [] ∧ ds = [] := by
  cases r with
  | nil => exact ⟨rfl, rfl⟩
  | cons a b => simp at h
end DL

set_option Elab.async false
set_option linter.all false
set_option maxRecDepth 100000
namespace DL
open PySem PySem.Spec PyProof.Rows L2
/-! ### continuations by name -/
def kPar (i j : Nat) (nx : Gm → Mp → Prop) (G : Gm) (ds : List D) (M : Mp) : Prop := match ds with
  | [d, e] => nx ((G.set i (some d)).set j (some e)) M
  | _ => False
def kPar3 (i j l : Nat) (nx : Gm → Mp → Prop) (G : Gm) (ds : List D) (M : Mp) : Prop := match ds with
  | [d, e, f] => nx (((G.set i (some d)).set j (some e)).set l (some f)) M
  | _ => False
def kSub (G : Gm) (d : D) (QG : Gm → Mp → Prop) (o i : D) (M : Mp) : Prop := match o, i with
  | .ref p, .int z => (match M p with
    | some (.lst ds) => (match ixN ds.length z with | some j => QG G (mupd M p (.lst (ds.set j d))) | none => False)
    | _ => False)
  | _, _ => False
def kTest (QT : Bool → Mp → Prop) (d : D) (M : Mp) : Prop := match d with
  | .bl k => QT k M
  | _ => False
def kTru (QT : Bool → Mp → Prop) (d : D) (M : Mp) : Prop := match truD M d with
  | some k => QT k M
  | none => False
def kAndV (G : Gm) (y : aE) (Q : QD) (d : D) (M : Mp) : Prop := match d with
  | .bl k => if k = true then y G M Q else Q (.bl false) M
  | _ => False
def kOrV (G : Gm) (y : aE) (Q : QD) (d : D) (M : Mp) : Prop := match d with
  | .bl k => if k = true then Q (.bl true) M else y G M Q
  | _ => False
def kItems (QA : List D → Mp → Prop) (d : D) (M : Mp) : Prop := match items d with | some ds => QA ds M | none => False
def kRng1 (QA : List D → Mp → Prop) (ds : List D) (M : Mp) : Prop := match ds with
  | [.int j] => j ≤ 1000000 ∧ -1000000 ≤ j ∧ QA (rng 0 j.toNat) M
  | _ => False
def kRng2 (QA : List D → Mp → Prop) (ds : List D) (M : Mp) : Prop := match ds with
  | [.int i, .int j] => (j ≤ 1000000 ∧ -1000000 ≤ j ∧ i ≤ 1000000 ∧ -1000000 ≤ i) ∧ QA (rng i (j - i).toNat) M
  | _ => False
def kZip (QA : List D → Mp → Prop) (ds : List D) (M : Mp) : Prop := match ds with
  | [d, e] => isL d = isL e ∧ (match items d, items e with | some xs, some ys => QA (zipD xs ys) M | _, _ => False)
  | _ => False
def kFld (K : PySem.W.Frag) (f : Str) (Q : QD) (d : D) (M : Mp) : Prop := match d with
  | .obj C gs => Cls K C ∧ NoAttr K C f ∧ (match gs.lookup f with | some y => Q y M | none => False)
  | .ref p => (match M p with
    | some (.ins C gs) => Cls K C ∧ NoAttr K C f ∧ (match gs.lookup f with | some y => Q y M | none => False)
    | _ => False)
  | _ => False
def kMeth (C : Addr) (m : Str) (d : D) (M : Mp) : Prop := match d with
  | .obj C' gs => C' = C ∧ gs.lookup m = none
  | .ref p => (match M p with | some (.ins C' gs) => C' = C ∧ gs.lookup m = none | _ => False)
  | _ => False
def kSetF (K : PySem.W.Frag) (f : Str) (G : Gm) (nx : Gm → Mp → Prop) (y d : D) (M : Mp) : Prop := match d with
  | .ref p => (match M p with
    | some (.ins C gs) => Cls K C ∧ NoAttr K C f ∧ gs.length < 1000 ∧ nx G (mupd M p (.ins C (asFld.putG f y gs)))
    | _ => False)
  | _ => False
def kDPut (G : Gm) (nx : Gm → Mp → Prop) (v d k : D) (M : Mp) : Prop := match d with
  | .ref p => (match putDk M p k v with | some c => nx G (mupd M p c) | none => False)
  | _ => False
def kDisK (Q : QD) (qs : List (D × D)) (M : Mp) : Prop := match keyPs qs with
  | some ms => ms.length ≤ 15 ∧ ∀ p, M p = none → Q (.ref p) (mupd M p (.dK (mergeD [] ms)))
  | none => False
def kDisT (Q : QD) (qs : List (D × D)) (M : Mp) : Prop := match keyTs qs with
  | some ms => ms.length ≤ 15 ∧ ∀ p, M p = none → Q (.ref p) (mupd M p (.dT (mergeD [] ms)))
  | none => False
def kPart (QO : Option Int → Mp → Prop) (d : D) (M : Mp) : Prop := match d with | .int i => QO (some i) M | _ => False
def kChain (G : Gm) (g : V2) (z : aE) (Q : QD) (e r : D) (M : Mp) : Prop := match r with
  | .bl k => if k = true then z G M fun w M4 => g e w M4 Q else Q (.bl false) M
  | _ => False
section
variable {m0 M : Mp} {nx bk ct : Gm → Mp → Prop} {rt Q : QD} {G : Gm} {t u : aS} {x y z : aE} {g : aG} {gs : aGs} {c c1 c2 : aT} {al a2 : aA} {i j l n m : Nat} {d e : D} {ds es : List D}
  {QT : Bool → Mp → Prop} {QA : List D → Mp → Prop} {QG : Gm → Mp → Prop} {a b : Addr} {k : Bool} {K : PySem.W.Frag}
/-! ### statements -/
theorem go_seq (h : t ⟨m0, cvU u ⟨m0, nx, rt, bk, ct⟩, rt, bk, ct⟩ G M) : asSeq t u ⟨m0, nx, rt, bk, ct⟩ G M := h
theorem go_sAsg (h : asAsg x g ⟨m0, cvU u ⟨m0, nx, rt, bk, ct⟩, rt, bk, ct⟩ G M) : asSeq (asAsg x g) u ⟨m0, nx, rt, bk, ct⟩ G M := h
theorem go_sDrop (h : asDrop x ⟨m0, cvU u ⟨m0, nx, rt, bk, ct⟩, rt, bk, ct⟩ G M) : asSeq (asDrop x) u ⟨m0, nx, rt, bk, ct⟩ G M := h
theorem go_sPar (h : asPar i j al ⟨m0, cvU u ⟨m0, nx, rt, bk, ct⟩, rt, bk, ct⟩ G M) : asSeq (asPar i j al) u ⟨m0, nx, rt, bk, ct⟩ G M := h
theorem go_sPar3 (h : asPar3 i j l al ⟨m0, cvU u ⟨m0, nx, rt, bk, ct⟩, rt, bk, ct⟩ G M) : asSeq (asPar3 i j l al) u ⟨m0, nx, rt, bk, ct⟩ G M := h
theorem go_sAug {f : V2} (h : asAug j x f ⟨m0, cvU u ⟨m0, nx, rt, bk, ct⟩, rt, bk, ct⟩ G M) : asSeq (asAug j x f) u ⟨m0, nx, rt, bk, ct⟩ G M := h
theorem go_sFld {f : Str} (h : asFld K x y f ⟨m0, cvU u ⟨m0, nx, rt, bk, ct⟩, rt, bk, ct⟩ G M) : asSeq (asFld K x y f) u ⟨m0, nx, rt, bk, ct⟩ G M := h
theorem go_sDPut (h : asDPut x y z ⟨m0, cvU u ⟨m0, nx, rt, bk, ct⟩, rt, bk, ct⟩ G M) : asSeq (asDPut x y z) u ⟨m0, nx, rt, bk, ct⟩ G M := h
/-- what follows a statement, by what is known ahead of it -/
theorem go_seqK {J : Gm → Mp → Prop} (h : ∀ nx', (∀ G M, J G M → nx' G M) → t ⟨m0, nx', rt, bk, ct⟩ G M) (h2 : ∀ G M, J G M → u ⟨m0, nx, rt, bk, ct⟩ G M) : asSeq t u ⟨m0, nx, rt, bk, ct⟩ G M := h _ fun G M j => ⟨G, M, .refl, h2 G M j⟩
/-- .. told in another way -/
theorem go_seqC {J : Gm → Mp → Prop} (h : ∀ nx', (∀ G M, (∃ G' M', Cvt m0 G M G' M' ∧ J G' M') → nx' G M) → t ⟨m0, nx', rt, bk, ct⟩ G M) (h2 : ∀ G M, J G M → u ⟨m0, nx, rt, bk, ct⟩ G M) : asSeq t u ⟨m0, nx, rt, bk, ct⟩ G M := h _ fun G M ⟨G', M', c, j⟩ => ⟨G', M', c, h2 _ _ j⟩
theorem go_cvU (h : u ⟨m0, nx, rt, bk, ct⟩ G M) : cvU u ⟨m0, nx, rt, bk, ct⟩ G M := ⟨G, M, .refl, h⟩
/-- for, by an invariant -/
theorem go_forI (I : Nat → Gm → Mp → Prop) (h0 : I 0 G M) (hs : ∀ i d G M nx', ds[i]? = some d → I i G M → (∀ G M, I (i + 1) G M → nx' G M) → g d G M fun G' M' => t ⟨m0, nx', rt, nx, nx'⟩ G' M') (hd : ∀ G M, I ds.length G M → nx G M) : forGo g t ds ⟨m0, nx, rt, bk, ct⟩ G M := by
  have main : ∀ (r : List D) (i : Nat) (G : Gm) (M : Mp), i ≤ ds.length → ds.drop i = r → I i G M → forGo g t r ⟨m0, nx, rt, bk, ct⟩ G M := by
    intro r
    induction r with
    | nil =>
      intro i G M hl e hi
      have h1 : ds.length ≤ i := List.drop_eq_nil_iff.mp e
      have q : i = ds.length := by omega
      subst q
      exact hd G M hi
    | cons d r ih =>
      intro i G M hl e hi
      have hlt : i < ds.length := by
        by_cases q : i < ds.length
        · exact q
        · rw [List.drop_eq_nil_of_le (by omega)] at e; cases e
      rw [List.drop_eq_getElem_cons hlt] at e
      injection e with e1 e2
      exact hs i d G M _ (by rw [List.getElem?_eq_getElem hlt, e1]) hi fun G M h => ih (i + 1) G M hlt e2 h
  exact main ds 0 G M (Nat.zero_le _) rfl h0
/-- a comprehension, by an invariant over the turn, what is made, the objects -/
theorem go_lcI {t : aT} (I : Nat → List D → Mp → Prop) (h0 : I 0 [] M) (hs : ∀ i d acc M (KY : D → Mp → Prop) (KN : Mp → Prop), ds[i]? = some d → I i acc M → (∀ y M, I (i + 1) (acc ++ [y]) M → KY y M) → (∀ M, I (i + 1) acc M → KN M) →
    g d G M fun G' M1 => t G' M1 fun b M2 => if b = true then x G' M2 KY else KN M2) (hd : ∀ acc M, I ds.length acc M → QA acc M) : lcGo g t x G ds [] M QA := by
  have main : ∀ (r : List D) (i : Nat) (acc : List D) (M : Mp), i ≤ ds.length → ds.drop i = r → I i acc M → lcGo g t x G r acc M QA := by
    intro r
    induction r with
    | nil =>
      intro i acc M hl e hi
      have h1 : ds.length ≤ i := List.drop_eq_nil_iff.mp e
      have q : i = ds.length := by omega
      subst q
      exact hd acc M hi
    | cons d r ih =>
      intro i acc M hl e hi
      have hlt : i < ds.length := by
        by_cases q : i < ds.length
        · exact q
        · rw [List.drop_eq_nil_of_le (by omega)] at e; cases e
      rw [List.drop_eq_getElem_cons hlt] at e
      injection e with e1 e2
      exact hs i d acc M _ _ (by rw [List.getElem?_eq_getElem hlt, e1]) hi (fun y M h => ih (i + 1) _ M hlt e2 h) (fun M h => ih (i + 1) acc M hlt e2 h)
  exact main ds 0 [] M (Nat.zero_le _) rfl h0
/-- a comprehension whose element and test are plain functions of the item -/
theorem go_lcP {t : aT} (p : D → Bool) (f : D → D) (h : ∀ (i : Nat) d (KY : D → Mp → Prop) (KN : Mp → Prop), ds[i]? = some d → (p d = true → KY (f d) M) → (p d = false → KN M) → g d G M fun G' M1 => t G' M1 fun b M2 => if b = true then x G' M2 KY else KN M2)
    (q : QA ((ds.filter p).map f) M) : lcGo g t x G ds [] M QA := by
  refine go_lcI (fun i acc M' => M' = M ∧ acc = ((ds.take i).filter p).map f) ⟨rfl, rfl⟩ (fun i d acc M' KY KN hd hI hY hN => ?_) (fun acc M' hI => ?_)
  · obtain ⟨rfl, rfl⟩ := hI
    refine h i d KY KN hd (fun hp => hY _ _ ⟨rfl, ?_⟩) (fun hp => hN _ ⟨rfl, ?_⟩)
    · rw [List.take_add_one, hd, List.filter_append, List.map_append]
      simp [hp]
    · rw [List.take_add_one, hd, List.filter_append, List.map_append]
      simp [hp]
  · obtain ⟨rfl, rfl⟩ := hI
    rw [List.take_length]
    exact q
/-- .. without a test -/
theorem go_lcM' {t : aT} (f : D → D) (h : ∀ (i : Nat) d (KY : D → Mp → Prop) (KN : Mp → Prop), ds[i]? = some d → KY (f d) M → g d G M fun G' M1 => t G' M1 fun b M2 => if b = true then x G' M2 KY else KN M2)
    (q : QA (ds.map f) M) : lcGo g t x G ds [] M QA := by
  refine go_lcP (fun _ => true) f (fun i d KY KN hd hY hN => h i d KY KN hd (hY rfl)) ?_
  rw [List.filter_eq_self.mpr fun _ _ => rfl]
  exact q
theorem go_whileI {W : Nat → Gm → Mp → Prop} (m : Nat) (h0 : W m G M) (hs : ∀ m G M nx', W m G M → (∀ m' G M, m' < m → W m' G M → nx' G M) → c G M fun k M1 => if k = true then t ⟨m0, nx', rt, nx, nx'⟩ G M1 else nx G M1) : asWhile c t ⟨m0, nx, rt, bk, ct⟩ G M :=
  ⟨W, ⟨m, h0⟩, fun m G M hw => hs m G M _ hw fun m' G M l h => ⟨m', l, h⟩⟩
theorem go_next (h : nx G M) : asNext ⟨m0, nx, rt, bk, ct⟩ G M := h
theorem go_break (h : bk G M) : asBreak ⟨m0, nx, rt, bk, ct⟩ G M := h
theorem go_cont (h : ct G M) : asCont ⟨m0, nx, rt, bk, ct⟩ G M := h
theorem go_drop (h : x G M fun _ M1 => nx G M1) : asDrop x ⟨m0, nx, rt, bk, ct⟩ G M := h
theorem go_ret (h : x G M rt) : asRet x ⟨m0, nx, rt, bk, ct⟩ G M := h
theorem go_retN (h : rt .non M) : asRetN ⟨m0, nx, rt, bk, ct⟩ G M := h
theorem go_if (h : c G M fun b M1 => if b = true then t ⟨m0, nx, rt, bk, ct⟩ G M1 else u ⟨m0, nx, rt, bk, ct⟩ G M1) : asIf c t u ⟨m0, nx, rt, bk, ct⟩ G M := h
theorem go_asg (h : x G M fun d M1 => g d G M1 nx) : asAsg x g ⟨m0, nx, rt, bk, ct⟩ G M := h
theorem go_par (h : al G M (kPar i j nx G)) : asPar i j al ⟨m0, nx, rt, bk, ct⟩ G M := h
theorem go_kpar {G1 G2 : Gm} (e1 : G.set i (some d) = G1) (e2 : G1.set j (some e) = G2) (h : nx G2 M) : kPar i j nx G [d, e] M := by subst e1; subst e2; exact h
theorem go_par3 (h : al G M (kPar3 i j l nx G)) : asPar3 i j l al ⟨m0, nx, rt, bk, ct⟩ G M := h
theorem go_kpar3 {f : D} {G1 G2 G3 : Gm} (e1 : G.set i (some d) = G1) (e2 : G1.set j (some e) = G2) (e3 : G2.set l (some f) = G3) (h : nx G3 M) : kPar3 i j l nx G [d, e, f] M := by subst e1; subst e2; subst e3; exact h
theorem go_aug {f : V2} (h : G[j]? = some (some d)) (q : x G M fun e M1 => f d e M1 fun z M2 => nx (G.set j (some z)) M2) : asAug j x f ⟨m0, nx, rt, bk, ct⟩ G M := by
  unfold asAug
  rw [h]
  exact q
theorem go_for {src : aA} (h : src G M fun ds M1 => forGo g t ds ⟨m0, nx, rt, bk, ct⟩ G M1) : asFor src g t ⟨m0, nx, rt, bk, ct⟩ G M := h
theorem go_forN (h : nx G M) : forGo g t [] ⟨m0, nx, rt, bk, ct⟩ G M := h
theorem go_forC (h : g d G M fun G' M' => t ⟨m0, forGo g t ds ⟨m0, nx, rt, bk, ct⟩, rt, nx, forGo g t ds ⟨m0, nx, rt, bk, ct⟩⟩ G' M') : forGo g t (d :: ds) ⟨m0, nx, rt, bk, ct⟩ G M := h
/-! ### targets -/
theorem go_name {G' : Gm} (e : G.set j (some d) = G') (h : QG G' M) : agName j d G M QG := by subst e; exact h
theorem go_tup (e : ds.length = n) (h : gs ds G M QG) : agTup n gs (.tup ds) G M QG := ⟨e, h⟩
theorem go_gcons (h : g d G M fun G' M' => gs ds G' M' QG) : agCons g gs (d :: ds) G M QG := h
theorem go_gnil (h : QG G M) : agNil [] G M QG := ⟨rfl, h⟩
theorem go_subL (h : x G M fun o M1 => y G M1 (kSub G d QG o)) : agSubL x y d G M QG := h
theorem go_ksub {z : Int} (h1 : M a = some (.lst ds)) (h2 : ixN ds.length z = some j) (e : ds.set j d = es) (h : QG G (mupd M a (.lst es))) : kSub G d QG (.ref a) (.int z) M := by
  subst e
  unfold kSub
  simp only [h1, h2]
  exact h
/-! ### expressions -/
theorem go_var (h : G[i]? = some (some d)) (q : Q d M) : aVar i G M Q := by
  unfold aVar
  rw [h]
  exact q
theorem go_c (q : Q d M) : aC d G M Q := q
theorem go_bin {f : V2} (h : x G M fun d M1 => y G M1 fun e M2 => f d e M2 Q) : aBin f x y G M Q := h
theorem go_un {f : V1} (h : x G M fun d M1 => f d M1 Q) : aUn f x G M Q := h
theorem go_anil (q : QA [] M) : aNil G M QA := q
theorem go_acons (h : x G M fun d M1 => al G M1 fun ds M2 => QA (d :: ds) M2) : aCons x al G M QA := h
theorem go_atup (h : al G M fun ds M1 => ds.length ≤ 1000000 ∧ Q (.tup ds) M1) : aTup al G M Q := h
theorem go_alst (h : al G M fun ds M1 => ds.length ≤ 1000000 ∧ Q (.list ds) M1) : aLst al G M Q := h
theorem go_alstM (h : al G M fun ds M1 => ds.length ≤ 1000000 ∧ ∀ p, M1 p = none → Q (.ref p) (mupd M1 p (.lst ds))) : aLstM al G M Q := h
theorem go_cb {f : VL} (h : al G M fun ds M1 => f ds M1 Q) : aCB f al G M Q := h
theorem go_bm {T : String} {f : VM} (h : x G M fun d M1 => tyD M1 d = some T ∧ al G M1 fun ds M2 => f d ds M2 Q) : aBM T f x al G M Q := h
theorem go_bm0 {T : String} {f : VM} (h : x G M fun d M1 => tyD M1 d = some T ∧ f d [] M1 Q) : aBM0 T f x G M Q := h
theorem go_call {sp : aSp} (h : al G M fun ds M1 => ds.length = n ∧ sp ds M1 Q) : aCall n sp al G M Q := h
theorem go_if' (h : c G M fun k M1 => if k = true then x G M1 Q else y G M1 Q) : aIf c x y G M Q := h
/-! ### tests -/
theorem go_test (h : x G M (kTest QT)) : aTest x G M QT := h
theorem go_ktest (q : QT k M) : kTest QT (.bl k) M := q
theorem go_tru (h : x G M (kTru QT)) : aTru x G M QT := h
theorem go_ktru (h : truD M d = some k) (q : QT k M) : kTru QT d M := by
  unfold kTru
  rw [h]
  exact q
theorem go_tand (h : c1 G M fun b M1 => if b = true then c2 G M1 QT else QT false M1) : atAnd c1 c2 G M QT := h
theorem go_tor (h : c1 G M fun b M1 => if b = true then QT true M1 else c2 G M1 QT) : atOr c1 c2 G M QT := h
theorem go_tnot (h : c1 G M fun b M1 => QT (!b) M1) : atNot c1 G M QT := h
theorem go_andV (h : x G M (kAndV G y Q)) : aAndV x y G M Q := h
theorem go_kandV (h : if k = true then y G M Q else Q (.bl false) M) : kAndV G y Q (.bl k) M := h
theorem go_orV (h : x G M (kOrV G y Q)) : aOrV x y G M Q := h
theorem go_korV (h : if k = true then Q (.bl true) M else y G M Q) : kOrV G y Q (.bl k) M := h
theorem go_tyes (q : QT true M) : atYes G M QT := q
/-! ### operations on values -/
theorem go_addI {i j : Int} (q : Q (.int (i + j)) M) : fAdd (.int i) (.int j) M Q := q
theorem go_addS {i j : Str} (h : i.length + j.length ≤ 1000000) (q : Q (.str (i ++ j)) M) : fAdd (.str i) (.str j) M Q := ⟨h, q⟩
theorem go_addL (h : ds.length + es.length ≤ 1000000) (q : Q (.list (ds ++ es)) M) : fAdd (.list ds) (.list es) M Q := ⟨h, q⟩
theorem go_fI0 {g : Int → Int → D} {i j : Int} (q : Q (g i j) M) : fI0 g (.int i) (.int j) M Q := q
theorem go_fI {C : Int → Int → Prop} {g : Int → Int → D} {i j : Int} (h : C i j) (q : Q (g i j) M) : fI C g (.int i) (.int j) M Q := ⟨h, q⟩
theorem go_mulI {i j : Int} (h : CMul i j) (q : Q (.int (i * j)) M) : fMul (.int i) (.int j) M Q := ⟨h, q⟩
theorem go_neg {i : Int} (q : Q (.int (-i)) M) : fNeg (.int i) M Q := q
theorem go_notB (q : Q (.bl (!k)) M) : fNot (.bl k) M Q := q
theorem go_eqI {i j : Int} (q : Q (.bl (i == j)) M) : fEq (.int i) (.int j) M Q := ⟨rfl, rfl, q⟩
theorem go_neI {i j : Int} (q : Q (.bl (!(i == j))) M) : fNe (.int i) (.int j) M Q := ⟨rfl, rfl, q⟩
theorem go_eqB {i j : Bool} (q : Q (.bl (i == j)) M) : fEq (.bl i) (.bl j) M Q := ⟨rfl, rfl, q⟩
theorem go_neB {i j : Bool} (q : Q (.bl (!(i == j))) M) : fNe (.bl i) (.bl j) M Q := ⟨rfl, rfl, q⟩
theorem go_is (q : Q (.bl (isNon d)) M) : fIs d .non M Q := q
theorem go_isnot (q : Q (.bl (!isNon d)) M) : fIsNot d .non M Q := q
theorem go_ix {i : Int} (h : itemsM M d = some ds) (h2 : atI ds i = some e) (q : Q e M) : fIx d (.int i) M Q := by
  unfold fIx
  simp only [h, h2]
  exact q
theorem itemsM_ref (h : M a = some (.lst ds)) : itemsM M (.ref a) = some ds := by simp only [itemsM, h]
theorem go_int {i : Int} (q : Q (.int i) M) : fInt [.int i] M Q := q
theorem go_abs {i : Int} (q : Q (.int (if i < 0 then -i else i)) M) : fAbs [.int i] M Q := q
theorem go_len (h : itemsM M d = some ds) (q : Q (.int (ds.length : Nat)) M) : fLen [d] M Q := by
  unfold fLen
  simp only [h]
  exact q
theorem go_lenS {z : Str} (h : z.length ≤ 1000000) (q : Q (.int (z.length : Nat)) M) : fLen [.str z] M Q := ⟨h, q⟩
theorem go_list (h : itemsM M d = some ds) (q : Q (.list ds) M) : fList [d] M Q := by
  unfold fList
  simp only [h]
  exact q
theorem go_listM (h : itemsM M d = some ds) (q : ∀ p, M p = none → Q (.ref p) (mupd M p (.lst ds))) : fListM [d] M Q := by
  unfold fListM
  simp only [h]
  exact q
theorem go_tuple (h : itemsM M d = some ds) (q : Q (if isLM d then .tup ds else d) M) : fTuple [d] M Q := by
  unfold fTuple
  simp only [h]
  exact q
theorem go_append (h : M a = some (.lst ds)) (h2 : ds.length < 1000000) (q : Q .non (mupd M a (.lst (ds ++ [d])))) : fAppend (.ref a) [d] M Q := by
  unfold fAppend
  simp only [h]
  exact ⟨h2, q⟩
theorem go_pop (h : M a = some (.lst ds)) (h2 : ds[ds.length - 1]? = some e) (q : Q e (mupd M a (.lst ds.dropLast))) : fPop (.ref a) [] M Q := by
  unfold fPop
  simp only [h, h2]
  exact q
theorem tyD_ref (h : M a = some (.lst ds)) : tyD M (.ref a) = some "list" := by simp only [tyD, h]
/-- a test whose answer is open -/
theorem go_ite {A B : Prop} (h1 : k = true → A) (h2 : k = false → B) : if k = true then A else B := by
  cases k with
  | true => rw [if_pos rfl]; exact h1 rfl
  | false => rw [if_neg Bool.false_ne_true]; exact h2 rfl
theorem go_iteT {A B : Prop} (h : k = true) (q : A) : if k = true then A else B := by rw [if_pos h]; exact q
theorem go_iteF {A B : Prop} (h : k = false) (q : B) : if k = true then A else B := by rw [h, if_neg Bool.false_ne_true]; exact q
/-! ### walks -/
theorem go_iseq (h : x G M (kItems QA)) : aiSeq x G M QA := h
theorem go_kitems (h : items d = some ds) (q : QA ds M) : kItems QA d M := by
  unfold kItems
  rw [h]
  exact q
theorem go_rng1 (h : al G M (kRng1 QA)) : aiRng1 al G M QA := h
theorem go_krng1 {j : Int} (h1 : j ≤ 1000000) (h2 : -1000000 ≤ j) (q : QA (rng 0 j.toNat) M) : kRng1 QA [.int j] M := ⟨h1, h2, q⟩
theorem go_rng2 (h : al G M (kRng2 QA)) : aiRng2 al G M QA := h
theorem go_krng2 {i j : Int} (h1 : j ≤ 1000000) (h2 : -1000000 ≤ j) (h3 : i ≤ 1000000) (h4 : -1000000 ≤ i) (q : QA (rng i (j - i).toNat) M) : kRng2 QA [.int i, .int j] M := ⟨⟨h1, h2, h3, h4⟩, q⟩
theorem go_zip (h : al G M (kZip QA)) : aiZip al G M QA := h
theorem go_kzip (h0 : isL d = isL e) (h1 : items d = some ds) (h2 : items e = some es) (q : QA (zipD ds es) M) : kZip QA [d, e] M := by
  unfold kZip
  simp only [h1, h2]
  exact ⟨h0, q⟩
theorem go_lc {src : aA} {t : aT} {vs : List Nat} {G1 : Gm} (e : wipeG G vs = G1) (h : src G M fun ds M1 => ds.length ≤ 1000000 ∧ lcGo g t x G1 ds [] M1 fun acc M2 => Q (.list acc) M2) : aLc src g t x vs G M Q := by subst e; exact h
theorem go_lcM {src : aA} {t : aT} {vs : List Nat} {G1 : Gm} (e : wipeG G vs = G1) (h : src G M fun ds M1 => ds.length ≤ 1000000 ∧ lcGo g t x G1 ds [] M1 fun acc M2 => ∀ p, M2 p = none → Q (.ref p) (mupd M2 p (.lst acc))) : aLcM src g t x vs G M Q := by subst e; exact h
theorem go_fld {f : Str} (h : x G M (kFld K f Q)) : aFld K x f G M Q := h
theorem go_kfldO {f : Str} {C : Addr} {gs : List (Str × D)} (h1 : Cls K C) (h2 : NoAttr K C f) (h3 : gs.lookup f = some d) (q : Q d M) : kFld K f Q (.obj C gs) M := by
  unfold kFld
  simp only [h3]
  exact ⟨h1, h2, q⟩
theorem go_kfldM {f : Str} {C : Addr} {gs : List (Str × D)} (h : M a = some (.ins C gs)) (h1 : Cls K C) (h2 : NoAttr K C f) (h3 : gs.lookup f = some d) (q : Q d M) : kFld K f Q (.ref a) M := by
  unfold kFld
  simp only [h, h3]
  exact ⟨h1, h2, q⟩
theorem go_meth {C : Addr} {mm : Str} {sp : aSp} (h : x G M fun d M1 => kMeth C mm d M1 ∧ al G M1 fun ds M2 => ds.length + 1 = n ∧ sp (d :: ds) M2 Q) : aMeth C mm n sp x al G M Q := h
theorem go_kmethO {C : Addr} {mm : Str} {gs : List (Str × D)} (h : gs.lookup mm = none) : kMeth C mm (.obj C gs) M := ⟨rfl, h⟩
theorem go_setF {f : Str} (h : y G M fun v M1 => x G M1 (kSetF K f G nx v)) : asFld K x y f ⟨m0, nx, rt, bk, ct⟩ G M := h
theorem go_ksetF {f : Str} {C : Addr} {gs gs' : List (Str × D)} (h : M a = some (.ins C gs)) (h1 : Cls K C) (h2 : NoAttr K C f) (h3 : gs.length < 1000) (e : asFld.putG f d gs = gs') (q : nx G (mupd M a (.ins C gs'))) : kSetF K f G nx d (.ref a) M := by
  subst e
  unfold kSetF
  simp only [h]
  exact ⟨h1, h2, h3, q⟩
theorem go_dput {v : aE} (h : v G M fun v M1 => x G M1 fun d M2 => y G M2 (kDPut G nx v d)) : asDPut x y v ⟨m0, nx, rt, bk, ct⟩ G M := h
theorem go_kdputK {gs : List (Key × D)} {kk : Key} {v : D} (h : M a = some (.dK gs)) (h1 : gs.length < 1000000) (h2 : keyOf d = some kk) (q : nx G (mupd M a (.dK (putD gs kk v)))) : kDPut G nx v (.ref a) d M := by
  unfold kDPut putDk
  simp only [h, if_pos h1, h2, Option.map_some]
  exact q
theorem go_kdputT {gs : List (List Key × D)} {kk : List Key} {v : D} (h : M a = some (.dT gs)) (h1 : gs.length < 1000000) (h2 : keyT d = some kk) (q : nx G (mupd M a (.dT (putD gs kk v)))) : kDPut G nx v (.ref a) d M := by
  unfold kDPut putDk
  simp only [h, if_pos h1, h2, Option.map_some]
  exact q
theorem go_make {C : Addr} {sp : aSp} (h : al G M fun ds M1 => ds.length + 1 = n ∧ ∀ x, M1 x = none →
  sp (.ref x :: ds) (mupd M1 x (.ins C [])) fun r M2 => r = .non ∧ ∃ gs, M2 x = some (.ins C gs) ∧ Q (.obj C gs) (mdel M2 x)) : aMake C n sp al G M Q := h
variable {QP : List (D × D) → Mp → Prop} {ps : List (aE × aE)} {QO : Option Int → Mp → Prop}
theorem go_pnil (q : QP [] M) : aPairs [] G M QP := q
theorem go_pcons (h : x G M fun d M1 => y G M1 fun e M2 => aPairs ps G M2 fun qs M3 => QP ((d, e) :: qs) M3) : aPairs ((x, y) :: ps) G M QP := h
theorem go_dispK (h : aPairs ps G M (kDisK Q)) : aDispKM ps G M Q := h
theorem go_dispT (h : aPairs ps G M (kDisT Q)) : aDispTM ps G M Q := h
theorem go_kdisK {qs : List (D × D)} {ms : List (Key × D)} (h : keyPs qs = some ms) (h2 : ms.length ≤ 15) (q : ∀ p, M p = none → Q (.ref p) (mupd M p (.dK (mergeD [] ms)))) : kDisK Q qs M := by
  unfold kDisK
  simp only [h]
  exact ⟨h2, q⟩
theorem go_kdisT {qs : List (D × D)} {ms : List (List Key × D)} (h : keyTs qs = some ms) (h2 : ms.length ≤ 15) (q : ∀ p, M p = none → Q (.ref p) (mupd M p (.dT (mergeD [] ms)))) : kDisT Q qs M := by
  unfold kDisT
  simp only [h]
  exact ⟨h2, q⟩
theorem go_sl {f : D → Option Int → Option Int → Mp → QD → Prop} {lo hi : aO} (h : x G M fun d M1 => lo G M1 fun lo M2 => hi G M2 fun hi M3 => f d lo hi M3 Q) : aSl f x lo hi G M Q := h
theorem go_onone (q : QO none M) : aoNone G M QO := q
theorem go_osome (h : x G M (kPart QO)) : aoSome x G M QO := h
theorem go_kpart {i : Int} (q : QO (some i) M) : kPart QO (.int i) M := q
theorem go_slL {lo hi : Option Int} (h : itemsM M d = some ds) (h2 : isLM d = true) (q : Q (.list (cutD ds lo hi)) M) : fSl d lo hi M Q := by
  cases d <;> first | (simp [isLM, isL] at h2; done) | (unfold fSl; simp only [h, h2, if_true]; exact q)
theorem go_chain {f g : V2} {z : aE} (h : x G M fun d M1 => y G M1 fun e M2 => f d e M2 (kChain G g z Q e)) : aChain f g x y z G M Q := h
theorem go_kchain {g : V2} {z : aE} (h : if k = true then z G M fun w M4 => g d w M4 Q else Q (.bl false) M) : kChain G g z Q d (.bl k) M := h
theorem go_inI {neg : Bool} {i : Int} (h : itemsM M e = some ds) (h2 : ds.all flatD = true) (q : Q (.bl (if neg then !memD (.int i) ds else memD (.int i) ds)) M) : fIn neg (.int i) e M Q := by
  unfold fIn
  simp only [h]
  exact ⟨rfl, h2, q⟩
theorem go_inD {neg : Bool} {o : Option D} (h0 : itemsM M e = none) (h : getDk M e d = some o) (q : Q (.bl (if neg then !o.isSome else o.isSome)) M) : fIn neg d e M Q := by
  unfold fIn
  simp only [h0, h]
  exact q
theorem itemsM_dT {gs : List (List Key × D)} (h : M a = some (.dT gs)) : itemsM M (.ref a) = none := by simp only [itemsM, h]
theorem itemsM_dK {gs : List (Key × D)} (h : M a = some (.dK gs)) : itemsM M (.ref a) = none := by simp only [itemsM, h]
theorem getDk_dT {gs : List (List Key × D)} {kk : List Key} (h : M a = some (.dT gs)) (h2 : keyT d = some kk) : getDk M (.ref a) d = some (valD gs kk) := by simp only [getDk, h, h2, Option.map_some]
theorem getDk_dK {gs : List (Key × D)} {kk : Key} (h : M a = some (.dK gs)) (h2 : keyOf d = some kk) : getDk M (.ref a) d = some (valD gs kk) := by simp only [getDk, h, h2, Option.map_some]
theorem go_maxT (h : items d = some ds) (h0 : isL d = false) {bs : List Int} (h2 : intsD ds = some bs) (h3 : 0 < bs.length) (q : ∀ mm, mm ∈ bs → (∀ y, y ∈ bs → y ≤ mm) → Q (.int mm) M) : fMaxT [d] M Q := by
  unfold fMaxT
  simp only [h, Option.bind_some, h2]
  exact ⟨h0, h3, q⟩
theorem go_all {bs : List Bool} (h : itemsM M d = some ds) (h0 : isLM d = true) (h2 : bools ds = some bs) (q : Q (.bl (bs.all _root_.id)) M) : fAll [d] M Q := by
  unfold fAll
  simp only [h, Option.bind_some, h2]
  exact ⟨h0, q⟩
theorem go_mulL {k : Int} (h0 : 0 ≤ k) (h1 : k ≤ 1000000) (h2 : ds.length * k.toNat ≤ 1000000) (q : Q (.list (List.replicate k.toNat ds).flatten) M) : fMul (.list ds) (.int k) M Q := ⟨h0, h1, h2, q⟩
theorem cmulL {i j : Int} (h1 : -18446744073709551616 < i) (h2 : i < 18446744073709551616) : CMul i j := .inl ⟨by omega, by omega⟩
theorem cmulR {i j : Int} (h1 : -18446744073709551616 < j) (h2 : j < 18446744073709551616) : CMul i j := .inr ⟨by omega, by omega⟩
end
end DL

set_option Elab.async false
set_option linter.all false
set_option maxRecDepth 100000
namespace DL
open PySem PySem.Spec PyProof.Rows L2
/-! ### lists within a value stand still from now on -/
mutual
inductive Dz (M : Mp) (L : List Addr) : D → D → Prop
  | same (d : D) : Dz M L d d
  | ref {a : Addr} {ds es : List D} : a ∈ L → M a = some (.lst ds) → Dzs M L ds es → Dz M L (.ref a) (.list es)
  | list {ds es : List D} : Dzs M L ds es → Dz M L (.list ds) (.list es)
  | tup {ds es : List D} : Dzs M L ds es → Dz M L (.tup ds) (.tup es)
inductive Dzs (M : Mp) (L : List Addr) : List D → List D → Prop
  | nil : Dzs M L [] []
  | cons {d e : D} {ds es : List D} : Dz M L d e → Dzs M L ds es → Dzs M L (d :: ds) (e :: es)
end
def mdelL (M : Mp) : List Addr → Mp
  | [] => M
  | a :: r => mdelL (mdel M a) r
theorem mdel_ne {M : Mp} {a b : Addr} (h : b ≠ a) : mdel M a b = M b := by unfold mdel; rw [if_neg h]
theorem mdel_same {M : Mp} {a : Addr} : mdel M a a = none := by unfold mdel; rw [if_pos rfl]
theorem mdelL_get {b : Addr} : ∀ {L : List Addr} {M : Mp}, mdelL M L b = if b ∈ L then none else M b
  | [], M => by simp [mdelL]
  | a :: r, M => by
    rw [mdelL, mdelL_get (L := r)]
    by_cases q : b = a
    · subst q; simp [mdel_same]
    · rw [mdel_ne q]; simp [q]
section
variable {K : PySem.W.Frag} {M0 M M' : Mp} {d : D} {Q : QD} {L : List Addr}
mutual
theorem dz_sound {N N' H : Hp} (s : Same N N') (hL : ∀ a ds, a ∈ L → M a = some (.lst ds) → ∃ xs, N' a = some (.lst xs) ∧ RelL K N xs ds) : ∀ {d e : D} {v : V}, Dz M L d e → RelD K N v d → RelD K N' v e
  | _, _, _, .same d, r => r.mono s
  | _, _, _, .ref ha hm z, r => by
    have e := rel_ref r
    subst e
    obtain ⟨xs, h1, h2⟩ := hL _ _ ha hm
    exact .list h1 (dzs_sound (H := H) s hL z h2)
  | _, _, _, .list z, r => by
    cases r with
    | list h1 h2 => exact .list (s _ _ h1) (dzs_sound (H := H) s hL z h2)
  | _, _, _, .tup z, r => by
    cases r with
    | tup h1 h2 => exact .tup (s _ _ h1) (dzs_sound (H := H) s hL z h2)
theorem dzs_sound {N N' H : Hp} (s : Same N N') (hL : ∀ a ds, a ∈ L → M a = some (.lst ds) → ∃ xs, N' a = some (.lst xs) ∧ RelL K N xs ds) : ∀ {d e : List D} {v : List V}, Dzs M L d e → RelL K N v d → RelL K N' v e
  | _, _, _, .nil, r => by cases r; exact .nil
  | _, _, _, .cons z zs, r => by
    cases r with
    | cons h1 h2 => exact .cons (dz_sound (H := H) s hL z h1) (dzs_sound (H := H) s hL zs h2)
end
/-- all lists of L are read as standing -/
theorem freezeL : ∀ (L : List Addr) {M : Mp} {N0 H0 N H : Hp}, L.Nodup → (∀ a, a ∈ L → (∃ ds, M a = some (.lst ds)) ∧ M0 a = none) → Fr M0 N0 H0 M N H → CM K M N H →
    ∃ N', Fr M0 N0 H0 (mdelL M L) N' H ∧ CM K (mdelL M L) N' H ∧ Same N N' ∧ ∀ a ds, a ∈ L → M a = some (.lst ds) → ∃ xs, N' a = some (.lst xs) ∧ RelL K N xs ds
  | [], M, N0, H0, N, H, _, _, f, c => ⟨N, f, c, Same.refl N, fun a ds h => by simp at h⟩
  | a :: r, M, N0, H0, N, H, nd, h, f, c => by
    obtain ⟨⟨ds, ha⟩, h0⟩ := h a (by simp)
    obtain ⟨hn, hr⟩ := List.nodup_cons.mp nd
    obtain ⟨hN, xs, hH, rx⟩ := c.hm a _ ha
    have C : CC K ⟨M0, N0, H0⟩ [] M N [] H := ⟨f, c, rfl, fun i d e => by simp at e⟩
    have C2 := C.freeze hN hH (f.h0 ha h0)
    obtain ⟨N', f', c', s', k'⟩ := freezeL r (M := mdel M a) hr (fun b hb => by
      have hne : b ≠ a := fun e => hn (e ▸ hb)
      rw [mdel_ne hne]
      exact h b (by simp [hb])) C2.fr C2.cm
    refine ⟨N', f', c', (same_new hN).trans s', fun b es hb hm => ?_⟩
    rcases List.mem_cons.mp hb with rfl | hb
    · rw [ha] at hm
      cases hm
      exact ⟨xs, s' _ _ upd_same, rx⟩
    · have hne : b ≠ a := fun e => hn (e ▸ hb)
      obtain ⟨N1, hx, rz⟩ := c.hm b _ hm
      obtain ⟨ys, h1, h2⟩ := k' b es hb (by rw [mdel_ne hne]; exact hm)
      obtain ⟨h3, h4⟩ := rz
      have := c'.sm _ _ h1
      rw [h3] at this
      cases this
      exact ⟨_, h1, h4⟩
theorem cv_deep {d d' : D} (z : Dz M L d d') (hn : L.Nodup) (h : ∀ a, a ∈ L → (∃ ds, M a = some (.lst ds)) ∧ M0 a = none) : Cv K M0 d M d' (mdelL M L) := fun N0 H0 N H v f c r => by
  obtain ⟨N', f', c', s', k'⟩ := freezeL L hn h f c
  exact ⟨N', f', c', dz_sound (H := H) s' k' z r⟩
theorem Fin.deep {d d' : D} (z : Dz M L d d') (hn : L.Nodup) (h : ∀ a, a ∈ L → (∃ ds, M a = some (.lst ds)) ∧ M0 a = none) (s : Sub M' (mdelL M L)) (q : Q d' M') : Fin K M0 Q d M := ⟨_, _, (cv_deep z hn h).trans (cv_sub s), q⟩
end
end DL
namespace DL
open PySem PySem.Spec PyProof.Rows L2
theorem length_rng {lo : Int} {n : Nat} : (rng lo n).length = n := by simp [rng]
theorem rng_get {lo : Int} {n i : Nat} {d : D} (h : (rng lo n)[i]? = some d) : i < n ∧ d = .int (lo + (i : Int)) := by
  unfold rng at h
  rw [List.getElem?_map] at h
  obtain ⟨j, h1, h2⟩ := Option.map_eq_some_iff.mp h
  rw [List.getElem?_range (by
    by_cases q : i < n
    · exact q
    · rw [List.getElem?_eq_none (by simp; omega)] at h1; cases h1)] at h1
  cases h1
  refine ⟨?_, h2.symm⟩
  by_cases q : i < n
  · exact q
  · rw [List.getElem?_eq_none (by simp; omega)] at h; cases h
theorem length_zipD {ds es : List D} : (zipD ds es).length = min ds.length es.length := by simp [zipD]
theorem dzs_same {M : Mp} {L : List Addr} : ∀ ds : List D, Dzs M L ds ds
  | [] => .nil
  | d :: r => .cons (.same d) (dzs_same r)
end DL
namespace DL
open PySem PySem.Spec PyProof.Rows L2
section
variable {M : Mp} {G : Gm} {x : aE} {g : aG} {t : aT} {ds : List D} {QA : List D → Mp → Prop}
/-- a comprehension that only picks -/
theorem go_lcF (p : D → Bool) (h : ∀ (i : Nat) d (KY : D → Mp → Prop) (KN : Mp → Prop), ds[i]? = some d → (p d = true → KY d M) → (p d = false → KN M) → g d G M fun G' M1 => t G' M1 fun b M2 => if b = true then x G' M2 KY else KN M2)
    (q : QA (ds.filter p) M) : lcGo g t x G ds [] M QA := go_lcP p (fun d => d) h (by rw [List.map_id']; exact q)
/-- a pick from a range -/
theorem go_lcR {n : Nat} (P : Int → Prop) (h : ∀ (i : Int) (KY : D → Mp → Prop) (KN : Mp → Prop), 0 ≤ i → i < n → (P i → KY (.int i) M) → (¬ P i → KN M) → g (.int i) G M fun G' M1 => t G' M1 fun b M2 => if b = true then x G' M2 KY else KN M2)
    (q : ∀ ns : List Int, (∀ i, i ∈ ns ↔ 0 ≤ i ∧ i < n ∧ P i) → ns.length ≤ n → QA (ns.map .int) M) : lcGo g t x G (rng 0 n) [] M QA := by
  refine go_lcI (fun i acc M' => M' = M ∧ ∃ ns : List Int, acc = ns.map .int ∧ ns.length ≤ i ∧ ∀ j, j ∈ ns ↔ 0 ≤ j ∧ j < i ∧ P j) ⟨rfl, [], rfl, by simp, fun j => ⟨fun h => by simp at h, fun h => by omega⟩⟩ (fun i d acc M' KY KN hd hI hY hN => ?_) (fun acc M' hI => ?_)
  · obtain ⟨rfl, ns, rfl, hl, hm⟩ := hI
    obtain ⟨hlt, rfl⟩ := rng_get hd
    refine h _ KY KN (by omega) (by omega) (fun hp => hY _ _ ⟨rfl, ns ++ [0 + (i : Int)], by simp, by simp; omega, fun j => ?_⟩) (fun hp => hN _ ⟨rfl, ns, rfl, by omega, fun j => ?_⟩)
    · rw [List.mem_append, hm, List.mem_singleton]
      constructor
      · rintro (⟨h1, h2, h3⟩ | rfl)
        · exact ⟨h1, by omega, h3⟩
        · exact ⟨by omega, by omega, hp⟩
      · rintro ⟨h1, h2, h3⟩
        by_cases q : j = 0 + (i : Int)
        · exact .inr q
        · exact .inl ⟨h1, by omega, h3⟩
    · rw [hm]
      constructor
      · rintro ⟨h1, h2, h3⟩; exact ⟨h1, by omega, h3⟩
      · rintro ⟨h1, h2, h3⟩
        by_cases q : j = 0 + (i : Int)
        · subst q; exact absurd h3 hp
        · exact ⟨h1, by omega, h3⟩
  · obtain ⟨rfl, ns, rfl, hl, hm⟩ := hI
    rw [length_rng] at hl hm
    exact q ns hm hl
end
end DL
namespace DL
open PySem PySem.Spec PyProof.Rows L2
section
variable {K : PySem.W.Frag} {M : Mp} {d : D} {Q : QD} {n t : String} {b : Bool} {ts : List D} {ns : List String}
theorem go_isi (hn : n ∈ tyNames) (ht : tyD M d = some t) (hb : tyIs t n = b) (q : Q (.bl b) M) : fIsi K [d, .ty n] M Q := by
  subst hb
  refine ⟨hn, ?_⟩
  split
  · cases ht
  · rw [ht]; exact q
theorem go_isiC {C : Addr} {gs : List (Str × D)} (hn : n ∈ tyNames) (ho : ObT K C) (q : Q (.bl false) M) : fIsi K [.obj C gs, .ty n] M Q := ⟨hn, ho, q⟩
theorem go_isiT (h0 : tysOf ts = some ns) (hn : (ns.all fun n => tyNames.contains n) = true) (ht : tyD M d = some t) (hb : (ns.any fun n => tyIs t n) = b) (q : Q (.bl b) M) : fIsiT K [d, .tup ts] M Q := by
  subst hb
  unfold fIsiT
  simp only [h0]
  refine ⟨hn, ?_⟩
  split
  · cases ht
  · rw [ht]; exact q
end
/-- a promise that is never used -/
theorem ok_never {P : Program} {w : World} {K : PySem.W.Frag} {mg : Str → Option Value} {base : Heap} {CX : CXT} {k : Nat} {f : Addr} {fd : FuncData} {ps : List Str} {n : Nat} {sp : aSp} (h : ∀ ds M Q, ¬ sp ds M Q) : FnOk P w K mg base CX k f fd ps (lift K n sp) :=
  ⟨fun _ _ _ _ ⟨_, _, _, _, _, _, _, z, _⟩ => (h _ _ _ z).elim, fun _ _ _ _ _ _ _ _ _ _ _ _ _ ⟨_, _, _, _, _, _, _, z, _⟩ => (h _ _ _ z).elim⟩
end DL
namespace DL
open PySem PySem.Spec PyProof.Rows L2
theorem go_isB {M : Mp} {d : D} {Q : QD} {b : Bool} (h : isNon d = b) (q : Q (.bl b) M) : fIs d .non M Q := by subst h; exact q
theorem go_isnotB {M : Mp} {d : D} {Q : QD} {b : Bool} (h : isNon d = b) (q : Q (.bl (!b)) M) : fIsNot d .non M Q := by subst h; exact q
end DL
namespace DL
open PySem PySem.Spec PyProof.Rows L2
theorem go_eqS {M : Mp} {i j : Str} {Q : QD} (h : PyData.strOk i = true) (h2 : PyData.strOk j = true) (q : Q (.bl (i == j)) M) : fEq (.str i) (.str j) M Q := ⟨h, h2, q⟩
end DL
namespace DL
open PySem PySem.Spec PyProof.Rows L2
theorem truD_ref {M : Mp} {a : Addr} {ds : List D} (h : M a = some (.lst ds)) : truD M (.ref a) = some (!ds.isEmpty) := by simp only [truD, h]
end DL
namespace DL
open PySem PySem.Spec PyProof.Rows L2
inductive Dzg (M : Mp) (L : List Addr) : Gm → Gm → Prop
  | nil : Dzg M L [] []
  | non {G G' : Gm} : Dzg M L G G' → Dzg M L (none :: G) (none :: G')
  | drop {d : D} {G G' : Gm} : Dzg M L G G' → Dzg M L (some d :: G) (none :: G')
  | cons {d e : D} {G G' : Gm} : Dz M L d e → Dzg M L G G' → Dzg M L (some d :: G) (some e :: G')
theorem Dzg.len {M : Mp} {L : List Addr} : ∀ {G G' : Gm}, Dzg M L G G' → G.length = G'.length
  | _, _, .nil => rfl
  | _, _, .non h => by simp [h.len]
  | _, _, .drop h => by simp [h.len]
  | _, _, .cons _ h => by simp [h.len]
theorem Dzg.get {M : Mp} {L : List Addr} : ∀ {G G' : Gm} {i : Nat} {e : D}, Dzg M L G G' → G'[i]? = some (some e) → ∃ d, G[i]? = some (some d) ∧ Dz M L d e
  | _, _, _, _, .nil, h => by simp at h
  | _, _, 0, _, .non _, h => by simp at h
  | _, _, 0, _, .drop _, h => by simp at h
  | _, _, 0, _, .cons z _, h => by simp at h; subst h; exact ⟨_, rfl, z⟩
  | _, _, i + 1, _, .non z, h => by simp at h; simpa using z.get h
  | _, _, i + 1, _, .drop z, h => by simp at h; simpa using z.get h
  | _, _, i + 1, _, .cons _ z, h => by simp at h; simpa using z.get h
theorem Dzg.same {M : Mp} {L : List Addr} : ∀ G : Gm, Dzg M L G G
  | [] => .nil
  | none :: G => .non (Dzg.same G)
  | some d :: G => .cons (.same d) (Dzg.same G)
/-- lists of ours stand still from now on, wherever they are held -/
theorem Cvt.freeze {m0 M M' : Mp} {G G' : Gm} {L : List Addr} (hn : L.Nodup) (h : ∀ a, a ∈ L → (∃ ds, M a = some (.lst ds)) ∧ m0 a = none) (hg : Dzg M L G G')
    (hM : ∀ x c, M' x = some c → x ∉ L ∧ (M x = some c ∨ ∃ ds es, M x = some (.lst ds) ∧ c = .lst es ∧ Dzs M L ds es)) : Cvt m0 G M G' M' := by
  intro K E N σ H e C
  subst e
  obtain ⟨N', f', c', s', k'⟩ := freezeL L hn h C.fr C.cm
  refine ⟨N', ⟨⟨f'.nn, fun a o h1 h2 => ?_, f'.new, f'.dom⟩, ⟨c'.sm, fun x c hx => ?_⟩, ?_⟩, s'⟩
  · obtain ⟨h3, h4⟩ := C.fr.keep a o h1 h2
    refine ⟨h3, ?_⟩
    cases q : M' a with
    | none => rfl
    | some c =>
      rcases (hM a c q).2 with h5 | ⟨_, _, h5, _⟩ <;> (rw [h4] at h5; cases h5)
  · obtain ⟨h1, h2⟩ := hM x c hx
    have hd : ∀ c0, M x = some c0 → mdelL M L x = some c0 := fun c0 e => by rw [mdelL_get, if_neg h1]; exact e
    rcases h2 with h2 | ⟨ds, es, h2, rfl, z⟩
    · exact c'.hm x c (hd _ h2)
    · obtain ⟨n1, _⟩ := c'.hm x _ (hd _ h2)
      obtain ⟨_, xs, h3, h4⟩ := C.cm.hm x _ h2
      exact ⟨n1, xs, h3, dzs_sound (H := H) s' k' z h4⟩
  · refine ⟨by rw [C.sl.1, hg.len], fun i d hi => ?_⟩
    obtain ⟨d0, h1, h2⟩ := hg.get hi
    obtain ⟨v, h3, h4⟩ := C.sl.2 i d0 h1
    exact ⟨v, h3, dz_sound (H := H) s' k' h2 h4⟩
end DL
namespace DL
open PySem PySem.Spec PyProof.Rows L2
theorem go_callN {n m nn : Nat} {sp : aSp} {gD : List D → List D → List D} {al a2 : aA} {G : Gm} {M : Mp} {Q : QD} (h : al G M fun ds M1 => a2 G M1 fun es M2 => ds.length = n ∧ es.length = m ∧ (gD ds es).length = nn ∧ sp (gD ds es) M2 Q) : aCallN n m nn sp gD al a2 G M Q := h
end DL

set_option Elab.async false
set_option linter.all false
set_option maxRecDepth 100000
namespace DL
open PySem PySem.Spec PyProof.Rows L2
/-! ### slices with a step -/
def stIx (n : Nat) (lo hi st : Option Int) : List Nat := sliceRange (sliceBounds lo hi st n).1 (sliceBounds lo hi st n).2.1 (sliceBounds lo hi st n).2.2
def pickL {t : Type} (xs : List t) (lo hi st : Option Int) : List t := (stIx xs.length lo hi st).filterMap (xs[·]?)
theorem pickL_mem {t : Type} {xs : List t} {lo hi st : Option Int} {x : t} (h : x ∈ pickL xs lo hi st) : x ∈ xs := by
  obtain ⟨i, _, h2⟩ := List.mem_filterMap.mp h
  exact List.mem_of_getElem? h2
theorem vals_pick {xs : List V} {us : List Value} (r : Vals xs us) : ∀ ix : List Nat, Vals (ix.filterMap (xs[·]?)) (ix.filterMap (us[·]?))
  | [] => .nil
  | i :: ix => by
    have ih := vals_pick r ix
    rw [List.filterMap_cons, List.filterMap_cons]
    by_cases h : i < xs.length
    · have e1 : xs[i]? = some (xs[i]'h) := List.getElem?_eq_getElem h
      obtain ⟨u, e2, r2⟩ := r.get e1
      simp only [e1, e2]
      exact .cons r2 ih
    · have e1 : xs[i]? = none := List.getElem?_eq_none (by omega)
      have e2 : us[i]? = none := List.getElem?_eq_none (by have := r.length; omega)
      simp only [e1, e2]
      exact ih
theorem rel_pick {K : PySem.W.Frag} {N : Hp} {xs : List V} {ds : List D} (r : RelL K N xs ds) : ∀ ix : List Nat, RelL K N (ix.filterMap (xs[·]?)) (ix.filterMap (ds[·]?))
  | [] => .nil
  | i :: ix => by
    have ih := rel_pick r ix
    rw [List.filterMap_cons, List.filterMap_cons]
    by_cases h : i < xs.length
    · have e1 : xs[i]? = some (xs[i]'h) := List.getElem?_eq_getElem h
      obtain ⟨u, e2, r2⟩ := r.get e1
      simp only [e1, e2]
      exact .cons r2 ih
    · have e1 : xs[i]? = none := List.getElem?_eq_none (by omega)
      have e2 : ds[i]? = none := List.getElem?_eq_none (by have := r.length; omega)
      simp only [e1, e2]
      exact ih
def tSl3 (K : PySem.W.Frag) (te : TE) (tl th ts : TO) : TE := fun σ H Q => te σ H fun x H1 => tl σ H1 fun l H2 => th σ H2 fun u H3 => ts σ H3 fun o H4 => ∃ a xs, x = .ref a ∧ SqL K H4 a xs ∧ o ≠ some 0 ∧ ∀ p, H4 p = none → Q (.ref p) (upd H4 p (.lst (pickL xs l u o)))
theorem pe_sl3 {X : Cx} {e st : Expr} {lo hi : Option Expr} {te : TE} {tl th ts : TO} {p3 pos : Pos} (he : PE X e te) (hl : PO X lo tl) (hu : PO X hi th) (hs : PO X (some st) ts) : PE X (.Subscript e (.Slice lo hi (some st) p3) pos) (tSl3 X.K te tl th ts) := by
  refine ⟨fun pins s σ H Q I h => ?_⟩
  refine Subscript_ (thn (he.run pins s σ H _ I h) fun v s1 ⟨x, H1, I1, r1, q1⟩ => ?_)
  refine wpAny_Slice (thn (hl.run pins s1 σ H1 _ I1 q1) fun vl s2 ⟨l, H2, I2, pl, q2⟩ => thn (hu.run pins s2 σ H2 _ I2 q2) fun vu s3 ⟨u, H3, I3, pu, q3⟩ => thn (hs.run pins s3 σ H3 _ I3 q3) fun vs s4 ⟨o, H4, I4, ps, q4⟩ => ?_)
  obtain ⟨a, xs, ex, hx, h0, q⟩ := q4
  subst ex
  obtain rfl : v = Value.ref a := r1
  have I5 : Inv X pins σ H4 { s4 with heap := s4.heap.push { cls := .type "slice", data := .fields #[vl, vu, vs] } } := I4.kept (t' := s4.toks) fun b ob q => Heap.get?_push_of_some _ q
  obtain ⟨its, r, ht, hz⟩ := I5.list hx
  have hlen := r.length
  have hzz : its.toArray.size ≤ sizeLine := by rw [List.size_toArray]; omega
  show wpAny (model X.prog X.w) X.A (subscriptTail e (.Slice lo hi (some st) p3) (.ref a) (.ref s4.heap.objs.size)) (EP X pins σ Q) X.xe { s4 with heap := s4.heap.push { cls := .type "slice", data := .fields #[vl, vu, vs] } }
  refine tail_any (ops := [.ref a, .ref s4.heap.objs.size]) ht.isList.typeIs (PySem.slot_list_getitem.lookup) ?_ (by with_unfolding_all rfl)
  refine wpAny_getItem_list_slice ht.isList (Heap.IsSliceOf.new _ vl vu vs) pl pu ps h0 ?_ hzz
  have ep : slicePick its.toArray l u o = (pickL its l u o).toArray := by
    unfold slicePick pickL stIx
    rw [List.size_toArray]
    simp only [List.getElem?_toArray]
  have rv : Vals (pickL xs l u o) (pickL its l u o) := by
    unfold pickL
    rw [hlen]
    exact vals_pick r _
  have hz2 := slicePick_size_le its.toArray l u o
  rw [ep, List.size_toArray] at hz2
  rw [ep]
  refine ⟨.ref _, _, I5.laid (t' := s4.toks) (o := .lst (pickL xs l u o)) (fun b ob q => Heap.get?_push_of_some _ q) (Nat.le_refl _) ?_, rfl, q _ (I5.hok.fresh (Nat.le_refl _))⟩
  exact ⟨by rw [rv.length]; exact Nat.le_trans hz2 hzz, _, 0, rv, Heap.get?_push_size _ rfl⟩
def kSl3 (Q : QD) (d : D) (lo hi st : Option Int) (M : Mp) : Prop := match itemsM M d with
  | some xs => isLM d = true ∧ st ≠ some 0 ∧ Q (.list (pickL xs lo hi st)) M
  | none => False
def aSl3 (x : aE) (l u s : aO) : aE := fun G M Q => x G M fun d M1 => l G M1 fun lo M2 => u G M2 fun hi M3 => s G M3 fun st M4 => kSl3 Q d lo hi st M4
section
variable {X : Cx} {K : PySem.W.Frag} {e st : Expr} {lo hi : Option Expr} {te : TE} {tl th ts : TO} {ae : aE} {al ah as : aO} {p3 pos : Pos}
theorem se_sl3 (h : SE K te ae) (h1 : SO K tl al) (h2 : SO K th ah) (h3 : SO K ts as) : SE K (tSl3 K te tl th ts) (aSl3 ae al ah as) := by
  intro E G M N σ H C Q Qc q k
  refine h E G M N σ H C _ _ q fun d v M1 N1 H1 q1 C1 s1 r1 => ?_
  refine h1 E G M1 N1 σ H1 C1 _ _ q1 fun lo M2 N2 H2 q2 C2 s2 => ?_
  refine h2 E G M2 N2 σ H2 C2 _ _ q2 fun hi M3 N3 H3 q3 C3 s3 => ?_
  refine h3 E G M3 N3 σ H3 C3 _ _ q3 fun st M4 N4 H4 q4 C4 s4 => ?_
  have r4 := ((r1.mono s2).mono s3).mono s4
  have k4 := k.from (s1.trans (s2.trans (s3.trans s4)))
  unfold kSl3 at q4
  split at q4
  · rename_i xs hx
    obtain ⟨p, vs, rfl, r5, h5⟩ := rel_itemsM C4.cm r4 hx
    rcases h5 with ⟨_, h5⟩ | ⟨e5, h5⟩
    · refine ⟨p, vs, rfl, h5, q4.2.1, fun q hq => k4.new C4 hq q4.2.2 fun N' s e => .list e ?_⟩
      unfold pickL
      rw [← r5.length]
      exact (rel_pick r5 _).mono s
    · rw [e5] at q4; cases q4.1
  · exact q4.elim
theorem de_slice3 (he : DE X e te ae) (hl : DO X lo tl al) (hu : DO X hi th ah) (hs : DO X (some st) ts as) : DE X (.Subscript e (.Slice lo hi (some st) p3) pos) (tSl3 X.K te tl th ts) (aSl3 ae al ah as) := ⟨pe_sl3 he.pe hl.po hu.po hs.po, se_sl3 he.se hl.so hu.so hs.so⟩
end
theorem go_sl3 {x : aE} {l u s : aO} {G : Gm} {M : Mp} {Q : QD} (h : x G M fun d M1 => l G M1 fun lo M2 => u G M2 fun hi M3 => s G M3 fun st M4 => kSl3 Q d lo hi st M4) : aSl3 x l u s G M Q := h
theorem go_ksl3 {d : D} {ds : List D} {lo hi st : Option Int} {M : Mp} {Q : QD} (h : itemsM M d = some ds) (h2 : isLM d = true) (h3 : st ≠ some 0) (q : Q (.list (pickL ds lo hi st)) M) : kSl3 Q d lo hi st M := by
  unfold kSl3
  rw [h]
  exact ⟨h2, h3, q⟩
theorem range_all {t : Type} : ∀ ds : List t, (List.range ds.length).filterMap (ds[·]?) = ds := fun ds => by
  apply List.ext_getElem?
  intro i
  have : (List.range ds.length).filterMap (ds[·]?) = ds := by
    induction ds with
    | nil => rfl
    | cons a r ih =>
      rw [List.length_cons, List.range_succ_eq_map, List.filterMap_cons]
      simp only [List.getElem?_cons_zero, List.filterMap_map]
      congr 1
  rw [this]
theorem pick_rev {t : Type} (ds : List t) : pickL ds none none (some (-1)) = ds.reverse := by
  unfold pickL stIx
  have hb := PySem.W.krv_bounds ds.length
  rw [hb]
  show (sliceRange ((ds.length : Int) - 1) (-1) (-1)).filterMap (ds[·]?) = _
  rw [PySem.W.krv_sliceRange, PySem.W.krv_range, List.filterMap_reverse, range_all]
end DL
namespace DL
open PySem PySem.Spec PyProof.Rows L2
/-! ### the keys of a dict that changes, as a list -/
def keyD : Key → D
  | .inl i => .int i
  | .inr x => .str x
theorem keyD_rel {K : PySem.W.Frag} {N : Hp} : ∀ k : Key, RelD K N (kV k) (keyD k)
  | .inl i => .int i
  | .inr x => .str x
theorem keysD_rel {K : PySem.W.Frag} {N : Hp} : ∀ {kvs : List (Key × V)} {gs : List (Key × D)}, RelF K N kvs gs → RelL K N (kvs.map fun kv => kV kv.1) (gs.map fun kv => keyD kv.1)
  | _, _, .nil => .nil
  | _, _, .cons (x := x) _ r => .cons (keyD_rel x) (keysD_rel r)
def fListD : VL := fun ds M Q => match ds with
  | [.ref a] => (match M a with | some (.dK gs) => Q (.list (gs.map fun kv => keyD kv.1)) M | _ => False)
  | _ => False
theorem sl_listD {K : PySem.W.Frag} : SL K rListD fListD := by
  intro E G M N σ H C xs ds rx Q Qc h k
  unfold fListD at h
  split at h
  · rename_i a
    obtain ⟨v, rfl, r⟩ := rel1 rx
    have e := rel_ref r
    subst e
    split at h
    · rename_i gs e
      obtain ⟨kvs, hd, rf⟩ := C.cm.dKs e
      unfold rListD
      exact ⟨a, kvs, rfl, hd, fun q hq => k.new C hq h fun N' s e => .list e ((keysD_rel rf).mono s)⟩
    · exact h.elim
  · exact h.elim
theorem go_listD {a : Addr} {gs : List (Key × D)} {M : Mp} {Q : QD} (h : M a = some (.dK gs)) (q : Q (.list (gs.map fun kv => keyD kv.1)) M) : fListD [.ref a] M Q := by
  unfold fListD
  simp only [h]
  exact q
/-! ### dicts that only tell what was seen -/
def dSeen {k : Type} (F : List k) : List (k × D) := F.map fun q => (q, .bl true)
theorem valD_dSeen {k : Type} [DecidableEq k] (q : k) : ∀ F : List k, (valD (dSeen F) q).isSome = decide (q ∈ F)
  | [] => by simp [dSeen, valD]
  | p :: F => by
    have ih := valD_dSeen q F
    unfold dSeen valD at *
    rw [List.map_cons, List.find?_cons]
    by_cases h : p = q
    · subst h; simp
    · simp only [h, decide_false]
      rw [ih]
      simp [Ne.symm h]
theorem putD_new {k : Type} [DecidableEq k] {q : k} {F : List k} (h : q ∉ F) : putD (dSeen F) q (.bl true) = dSeen (F ++ [q]) := by
  unfold putD
  rw [if_neg]
  · simp [dSeen]
  · intro e
    obtain ⟨kv, h1, h2⟩ := List.any_eq_true.mp e
    obtain ⟨p, hp, rfl⟩ := List.mem_map.mp h1
    have := of_decide_eq_true h2
    subst this
    exact h hp
theorem putD_old {k : Type} [DecidableEq k] {q : k} {F : List k} (h : q ∈ F) : putD (dSeen F) q (.bl true) = dSeen F := by
  unfold putD
  have e : ((dSeen F).any fun kv => decide (kv.1 = q)) = true := List.any_eq_true.mpr ⟨(q, .bl true), List.mem_map.mpr ⟨q, h, rfl⟩, by simp⟩
  rw [if_pos e]
  unfold dSeen
  rw [List.map_map]
  apply List.map_congr_left
  intro p hp
  simp only [Function.comp]
  split <;> rfl
theorem putD_seen' {k : Type} [DecidableEq k] (q : k) (F : List k) : ∃ F', putD (dSeen F) q (.bl true) = dSeen F' ∧ (∀ p, p ∈ F' ↔ p ∈ F ∨ p = q) ∧ F'.length ≤ F.length + 1 := by
  by_cases h : q ∈ F
  · exact ⟨F, putD_old h, fun p => ⟨.inl, fun z => z.elim (fun y => y) (fun e => e ▸ h)⟩, by omega⟩
  · exact ⟨F ++ [q], putD_new h, fun p => by simp, by simp⟩
theorem keys_dSeen (F : List Int) : (dSeen (F.map Sum.inl : List Key)).map (fun kv => keyD kv.1) = F.map D.int := by
  unfold dSeen
  rw [List.map_map, List.map_map]
  rfl
/-! ### more forms -/
theorem go_extend {a : Addr} {xs ys : List D} {M : Mp} {Q : QD} (h : M a = some (.lst xs)) (h2 : xs.length + ys.length ≤ 1000000) (q : Q .non (mupd M a (.lst (xs ++ ys)))) : fExtend (.ref a) [.list ys] M Q := by
  unfold fExtend
  simp only [h]
  exact ⟨h2, q⟩
def kEnum (QA : List D → Mp → Prop) (ds : List D) (M : Mp) : Prop := match ds with
  | [d] => isL d = true ∧ (match items d with | some xs => QA (enumD xs) M | _ => False)
  | _ => False
theorem go_enum {al : aA} {G : Gm} {M : Mp} {QA : List D → Mp → Prop} (h : al G M (kEnum QA)) : aiEnum al G M QA := h
theorem go_kenum {d : D} {ds : List D} {M : Mp} {QA : List D → Mp → Prop} (h : items d = some ds) (h0 : isL d = true) (q : QA (enumD ds) M) : kEnum QA [d] M := by
  unfold kEnum
  simp only [h]
  exact ⟨h0, q⟩
theorem length_enumD {ds : List D} : (enumD ds).length = ds.length := by simp [enumD]
theorem eqOks_ints : ∀ (n : Nat) (cs : List Int), eqOks n (cs.map D.int) = true
  | _, [] => by simp [eqOks]
  | n, c :: cs => by
    simp only [List.map_cons, eqOks, Bool.and_eq_true]
    exact ⟨by simp [eqOk], eqOks_ints n cs⟩
end DL
namespace DL
open PySem PySem.Spec PyProof.Rows L2
/-! ### a, b = a list -/
def agUnl (n : Nat) (r : aGs) : aG := fun d G M Q => match d with
  | .list ds => ds.length = n ∧ r ds G M Q
  | _ => False
theorem dg_unl {X : Cx} {tgs : List Expr} {gs : TGs} {ags : aGs} {pos : Pos} {k n : Nat} (h : DGs X tgs gs ags) (hc : X.calm = true := by rfl) (hn : (assignEach tgs X.env).length = n := by rfl) (hst : (assignEach tgs X.env).findIdx? (·.1) = none := by rfl) :
    DG X (.Tuple tgs k pos) (gUnl X.K n gs) (agUnl n ags) := ⟨pg_unl hc h.pg hn hst, by
  intro E G M N σ H C v d r Q Qc q k
  unfold agUnl at q
  split at q
  · cases r with | list h1 r1 =>
    exact ⟨_, _, rfl, C.cm.sm.seq (.inl (.inl h1)), by rw [r1.length]; exact q.1, h.sg E G M N σ H C _ _ r1 Q Qc q.2 k⟩
  · exact q.elim⟩
theorem go_unl {n : Nat} {gs : aGs} {ds : List D} {G : Gm} {M : Mp} {QG : Gm → Mp → Prop} (e : ds.length = n) (h : gs ds G M QG) : agUnl n gs (.list ds) G M QG := ⟨e, h⟩
end DL

set_option Elab.async false
set_option linter.all false
set_option maxRecDepth 100000
namespace DL
open PySem PySem.Spec PyProof.Rows L2
/-! ### a list many times, as a list that may change -/
section
variable {X : Cx} {K : PySem.W.Frag} {a b : Expr} {ta tb : TE} {aa ab : aE} {pos : Pos}
def fMulM : V2 := fun d e M Q => match d, e with
  | .list xs, .int k => 0 ≤ k ∧ k ≤ 1000000 ∧ xs.length * k.toNat ≤ 1000000 ∧ ∀ p, M p = none → Q (.ref p) (mupd M p (.lst (List.replicate k.toNat xs).flatten))
  | _, _ => False
theorem s2_mulM : S2 K rMulA fMulM := by
  intro E G M N σ H C x y d e rx ry Q Qc h k
  unfold fMulM at h
  split at h
  · cases rx with | list h1 r1 => cases ry with | int z =>
    obtain ⟨z0, z1, z2, z3⟩ := h
    refine .inr ⟨_, _, _, rfl, rfl, C.cm.sm _ _ h1, by omega, by omega, ?_, fun p hp => ?_⟩
    · rw [r1.length]; exact big_le z2
    · exact k.newM C hp (hasL upd_same (r1.rep _)) (z3 p (C.cm.noneM hp))
  · exact h.elim
theorem de_mulM (ha : DE X a ta aa) (hb : DE X b tb ab) : DE X (.BinOp a .Mult b pos) (tOp rMulA ta tb) (aBin fMulM aa ab) := ⟨pe_op (OpR.or op_mul op_rep) ha.pe hb.pe, se_op s2_mulM ha.se hb.se⟩
theorem go_mulM {M : Mp} {Q : QD} {ds : List D} {k : Int} (h0 : 0 ≤ k) (h1 : k ≤ 1000000) (h2 : ds.length * k.toNat ≤ 1000000) (q : ∀ p, M p = none → Q (.ref p) (mupd M p (.lst (List.replicate k.toNat ds).flatten))) : fMulM (.list ds) (.int k) M Q := ⟨h0, h1, h2, q⟩
end
/-! ### a value equals itself -/
theorem eqv_self {d : D} {n : Nat} (h : eqOk n d = true) : eqv d d = true := PySem.SeqAt.eqv_refl _ (shaped_of n d h).1
theorem go_neSame {M : Mp} {d : D} {Q : QD} (hs : snap M d = d) (h : eqOk 9 d = true) (q : Q (.bl false) M) : fNe d d M Q := by
  refine ⟨by rw [hs]; exact h, by rw [hs]; exact h, ?_⟩
  rw [hs, eqv_self h]
  exact q
theorem go_eqSame {M : Mp} {d : D} {Q : QD} (hs : snap M d = d) (h : eqOk 9 d = true) (q : Q (.bl true) M) : fEq d d M Q := by
  refine ⟨by rw [hs]; exact h, by rw [hs]; exact h, ?_⟩
  rw [hs, eqv_self h]
  exact q
end DL

set_option Elab.async false
set_option linter.all false
set_option maxRecDepth 100000
namespace DL
open PySem PySem.Spec PyProof.Rows L2
/-! ### a new dict is locked for ever -/
def tFrz (t : TE) : TE := fun σ H Q => t σ H fun v H' => ∃ d u, v = .ref d ∧ H' d = some u ∧ Mut (some u) ∧ ∀ od, Q v (upd H' d (.frz od u))
theorem pe_frz {X : Cx} {e : Expr} {t : TE} (h : PE X e t) : PE X e (tFrz t) := by
  refine ⟨fun pins s σ H Q I hw => ?_⟩
  refine thn (h.run pins s σ H _ I hw) fun v s1 ⟨x, H1, I2, r, d, u, e1, hd, mu, q⟩ => ?_
  obtain ⟨od, I3⟩ := I2.lock hd mu
  exact ⟨x, _, I3, r, q od⟩
section
variable {K : PySem.W.Frag} {E : En} {G : Gm} {M : Mp} {N H : Hp} {σ : L2.St}
/-- a thing that nobody knows may be anything -/
theorem CC.put {a : Addr} {o : HO} (c : CC K E G M N σ H) (hM : M a = none) (hN : N a = none) (h0 : E.H a = none) : CC K E G M N σ (upd H a o) where
  fr := ⟨c.fr.nn, fun b u e m => by
    obtain ⟨z1, z2⟩ := c.fr.keep b u e m
    exact ⟨by rw [upd_ne (ne_of_none e h0)]; exact z1, z2⟩, c.fr.new, fun b u e => by
    obtain ⟨o', z⟩ := c.fr.dom b u e
    exact ⟨o', by rw [upd_ne (ne_of_none e h0)]; exact z⟩⟩
  cm := ⟨fun b u e => by rw [upd_ne (ne_of_none e hN)]; exact c.cm.sm _ _ e, fun b x e => by
    obtain ⟨z1, z2⟩ := c.cm.hm b x e
    have qn : b ≠ a := fun z => by subst z; rw [hM] at e; cases e
    exact ⟨z1, z2.mono (Same.refl _) fun o e => by rw [upd_ne qn]; exact e⟩⟩
  sl := c.sl
theorem mdel_none {a : Addr} (h : M a = none) : mdel M a = M := by
  funext b
  unfold mdel
  split
  · rename_i e; subst e; exact h.symm
  · rfl
theorem CC.frz {a : Addr} {o : HO} (c : CC K E G M N σ H) (hM : M a = none) (hN : N a = none) (h0 : E.H a = none) : CC K E G M (upd N a o) σ (upd H a o) := by
  have := (c.put (o := o) hM hN h0).freeze hN upd_same h0
  rwa [mdel_none hM] at this
theorem CC.h0 {a : Addr} (c : CC K E G M N σ H) (h : H a = none) : E.H a = none := by
  cases w : E.H a with
  | none => rfl
  | some o =>
    obtain ⟨o', e'⟩ := c.fr.dom a o w
    rw [e'] at h; cases h
end
/-! ### {} that stands -/
def aDNil : aE := fun _ M Q => Q (.dK []) M
theorem de_dnil {X : Cx} {pos : Pos} : DE X (.Dict [] [] pos) (tFrz tDNewK) aDNil := ⟨pe_frz pe_dnewK, by
  intro E G M N σ H C Q Qc q k p hp
  refine ⟨p, _, rfl, upd_same, True.intro, fun od => ?_⟩
  obtain ⟨hN, hM⟩ := C.cm.none hp
  have C2 := C.frz (o := .frz od (.dK [])) hM hN (C.h0 hp)
  rw [show upd (upd H p (.dK [])) p (.frz od (.dK [])) = upd H p (.frz od (.dK [])) by funext b; unfold upd; split <;> rfl]
  exact k _ _ _ _ _ q C2 (same_new hN) (.dK upd_same .nil)⟩
/-! ### dict comprehensions -/
theorem length_putD {k : Type} [DecidableEq k] (gs : List (k × D)) (x : k) (d : D) : (putD gs x d).length ≤ gs.length + 1 := by
  unfold putD
  split
  · rw [List.length_map]; omega
  · simp
def dcGo (g : aG) (t : aT) (kx vx : aE) (G : Gm) : List D → List (Key × D) → Mp → (List (Key × D) → Mp → Prop) → Prop
  | [], acc, M, Q => Q acc M
  | d :: ds, acc, M, Q => g d G M fun G' M1 => t G' M1 fun b M2 => if b = true then kx G' M2 fun y M3 => vx G' M3 fun z M4 => (match keyOf y with | some k => dcGo g t kx vx G ds (putD acc k z) M4 Q | none => False) else dcGo g t kx vx G ds acc M2 Q
def aDc (src : aA) (g : aG) (t : aT) (kx vx : aE) (vs : List Nat) : aE := fun G M Q => src G M fun ds M1 => ds.length ≤ 1000000 ∧ dcGo g t kx vx (wipeG G vs) ds [] M1 fun acc M2 => Q (.dK acc) M2
theorem RelF.empty {K : PySem.W.Frag} {N : Hp} {k : Type} : RelF K N ([] : List (k × V)) ([] : List (k × D)) := .nil
section
variable {X : Cx} {K : PySem.W.Frag}
theorem dc_gen {wi : TI} {awi : aA} {g : TG} {ag : aG} {tt : TT} {at' : aT} {tk tv : TE} {ak av : aE} {vs : List Nat} (hi : SI K wi awi) (hg : SG K g ag) (ho : OwnM vs g) (ht : ST K tt at') (hk : SE K tk ak) (he : SE K tv av)
    {E : En} {G : Gm} {M : Mp} {N H : Hp} {σ : L2.St} (C : CC K E G M N σ H) {Qa : List (Key × D) → Mp → Prop} {Qc : VK} (q : awi G M fun ds M1 => ds.length ≤ 1000000 ∧ dcGo ag at' ak av (wipeG G vs) ds [] M1 Qa)
    (k : ∀ p acc accV M' N' H', Qa acc M' → CC K E G M' N' σ H' → Same N N' → H' p = some (.dK accV) → M' p = none → N' p = none → E.H p = none → RelF K N' accV acc → Qc (.ref p) H') : tDc wi g tt tk tv vs σ H Qc := by
  refine hi E G M N σ H C _ _ q fun ds M1 N1 H1 J h1 C1 s1 dr => ?_
  intro p hp
  obtain ⟨hN, hM⟩ := C1.cm.none hp
  have h0 : E.H p = none := C1.h0 hp
  have first : Fr M1 N1 H1 M1 N1 (upd H1 p (.dK [])) := ⟨Same.refl _, fun a u e m => ⟨by rw [upd_ne (ne_of_none e hp)]; exact e, m⟩, fun a u e n => n, fun a u e => ⟨u, by rw [upd_ne (ne_of_none e hp)]; exact e⟩⟩
  have cm1 : CM K M1 N1 (upd H1 p (.dK [])) := ⟨fun a u e => by rw [upd_ne (ne_of_none e hN)]; exact C1.cm.sm _ _ e, fun a c e => by
    obtain ⟨x1, x2⟩ := C1.cm.hm a c e
    exact ⟨x1, x2.mono (Same.refl _) fun o e => by rw [upd_ne (ne_of_none e hp)]; exact e⟩⟩
  refine ⟨fun i m H => ∃ M N acc accV, Fr M1 N1 H1 M N H ∧ CM K M N H ∧ H p = some (.dK accV) ∧ M p = none ∧ N p = none ∧ RelF K N accV acc ∧ acc.length ≤ i ∧ m = ds.length - i ∧ dcGo ag at' ak av (wipeG G vs) (ds.drop i) acc M Qa,
    ⟨_, M1, N1, [], [], first, cm1, upd_same, hM, hN, .nil, Nat.le_refl _, rfl, h1.2⟩, ?_⟩
  rintro i m H ⟨M, N, acc, accV, fr, cm, hH, hMp, hNp, ra, hai, rfl, hl⟩
  have C0 : CC K ⟨M, N, H⟩ (wipeG G vs) M N (wipe σ vs) H := ⟨.refl, cm, ((C1.sl.mono fr.nn).wipe vs)⟩
  obtain ⟨d1, d2⟩ := dr _ _ M N _ H C0 fr.nn i
  by_cases hlt : ds.length ≤ i
  · rw [List.drop_eq_nil_of_le hlt] at hl
    refine .inl ⟨d1 hlt, k p acc accV M N H hl ⟨C1.fr.trans fr, cm, C1.sl.mono fr.nn⟩ (s1.trans fr.nn) hH hMp hNp h0 ra⟩
  · have hlt : i < ds.length := by omega
    rw [List.drop_eq_getElem_cons hlt] at hl
    obtain ⟨g1, g2⟩ := d2 ds[i] (List.getElem?_eq_getElem hlt)
    refine .inr ⟨g1, fun H' => ∃ M N acc accV, Fr M1 N1 H1 M N H' ∧ CM K M N H' ∧ H' p = some (.dK accV) ∧ M p = none ∧ N p = none ∧ RelF K N accV acc ∧ acc.length ≤ i + 1 ∧ dcGo ag at' ak av (wipeG G vs) (ds.drop (i + 1)) acc M Qa,
      fun H' ⟨M, N, acc, accV, x1, x2, x3, x4, x5, x6, x7, x8⟩ => ⟨ds.length - (i + 1), by omega, M, N, acc, accV, x1, x2, x3, x4, x5, x6, x7, rfl, x8⟩, fun x H' hy => ?_⟩
    obtain ⟨N2, s2, f2, c2, r2⟩ := g2 x H' hy
    have go : g x (wipe σ vs) H' fun σ2 H2 => tt σ2 H2 fun b H3 => if b = true then tk σ2 H3 fun y H4 => tv σ2 H4 fun z H5 => ∃ kvs k, y = kV k ∧ H5 p = some (.dK kvs) ∧ kvs.length < sizeLine ∧
        (∃ M N acc' accV, Fr M1 N1 H1 M N (upd H5 p (.dK (putK kvs k z))) ∧ CM K M N (upd H5 p (.dK (putK kvs k z))) ∧ (upd H5 p (.dK (putK kvs k z))) p = some (.dK accV) ∧ M p = none ∧ N p = none ∧ RelF K N accV acc' ∧ acc'.length ≤ i + 1 ∧ dcGo ag at' ak av (wipeG G vs) (ds.drop (i + 1)) acc' M Qa)
        else ∃ M N acc accV, Fr M1 N1 H1 M N H3 ∧ CM K M N H3 ∧ H3 p = some (.dK accV) ∧ M p = none ∧ N p = none ∧ RelF K N accV acc ∧ acc.length ≤ i + 1 ∧ dcGo ag at' ak av (wipeG G vs) (ds.drop (i + 1)) acc M Qa := by
      refine hg _ _ M N2 _ H' (C0.step f2 c2) x _ r2 _ _ hl fun G3 M3 N3 σ3 H3 h3 C3 s3 => ?_
      refine ht _ _ M3 N3 σ3 H3 C3 _ _ h3 fun b M4 N4 H4 h4 C4 s4 => ?_
      cases b with
      | false =>
        rw [if_neg Bool.false_ne_true] at h4 ⊢
        obtain ⟨y1, y2⟩ := C4.fr.keep p _ hH hMp
        exact ⟨M4, N4, acc, accV, fr.trans C4.fr, C4.cm, y1, y2, C4.fr.new p _ hH hNp, ra.mono C4.fr.nn, by omega, h4⟩
      | true =>
        rw [if_pos rfl] at h4 ⊢
        refine hk _ _ M4 N4 σ3 H4 C4 _ _ h4 fun dk kk M6 N6 H6 h6 C6 s6 r6 => ?_
        refine he _ _ M6 N6 σ3 H6 C6 _ _ h6 fun dy y M5 N5 H5 h5 C5 s5 r5 => ?_
        split at h5
        · rename_i ky eky
          obtain ⟨y1, y2⟩ := C5.fr.keep p _ hH hMp
          have y3 := C5.fr.new p _ hH hNp
          have ra5 := ra.mono C5.fr.nn
          refine ⟨accV, ky, key_rel r6 eky, y1, by rw [ra.length]; exact big_lt (by omega), M5, N5, putD acc ky dy, putK accV ky y, ?_, ?_, upd_same, y2, y3, ra5.put ky r5, by have := length_putD acc ky dy; omega, h5⟩
          · have f5 := fr.trans C5.fr
            exact ⟨f5.nn, fun a u e m => by
              obtain ⟨z1, z2⟩ := f5.keep a u e m
              exact ⟨by rw [upd_ne (ne_of_none e hp)]; exact z1, z2⟩, f5.new, fun a u e => by
              obtain ⟨o, z⟩ := f5.dom a u e
              exact ⟨o, by rw [upd_ne (ne_of_none e hp)]; exact z⟩⟩
          · exact ⟨fun a u e => by rw [upd_ne (ne_of_none e y3)]; exact C5.cm.sm _ _ e, fun a c e => by
              obtain ⟨z1, z2⟩ := C5.cm.hm a c e
              have qn : a ≠ p := fun z => by subst z; rw [y2] at e; cases e
              exact ⟨z1, z2.mono (Same.refl _) fun o e => by rw [upd_ne qn]; exact e⟩⟩
        · exact h5.elim
    refine ho.mono x _ H' _ _ (fun σ2 H2 ⟨e2, q2⟩ => ?_) (ho.own x _ H' _ go)
    exact ⟨by rw [e2, wipe_wipe], q2⟩
theorem se_dc {wi : TI} {awi : aA} {g : TG} {ag : aG} {tt : TT} {at' : aT} {tk tv : TE} {ak av : aE} {vs : List Nat} (hi : SI K wi awi) (hg : SG K g ag) (ho : OwnM vs g) (ht : ST K tt at') (hk : SE K tk ak) (he : SE K tv av) : SE K (tFrz (tDc wi g tt tk tv vs)) (aDc awi ag at' ak av vs) := by
  intro E G M N σ H C Q Qc q k
  refine dc_gen hi hg ho ht hk he C q fun p acc accV M' N' H' q' C' s' hH hM hN h0 r => ?_
  refine ⟨p, _, rfl, hH, True.intro, fun od => ?_⟩
  have C2 := C'.frz (o := .frz od (.dK accV)) hM hN h0
  exact k _ _ _ _ _ q' C2 (s'.trans (same_new hN)) (.dK upd_same (r.mono (same_new hN)))
variable {kx vx tg iter : Expr} {ifs : List Expr} {scope : Scope} {own : List (Str × Nat)} {pos : Pos} {wi : TI} {awi : aA}
/-- name = {..} on one line, the name a local -/
theorem ps_setDc {i : Nat} {y : Str} {py spos : Pos} {g : TG} {tt : TT} {tk tv : TE} (hc : X.calm = true) (hN : X.N.Nodup) (hy : X.N[i]? = some y) (hyl : X.env.scope.names.lookup y = some .local)
    (hsw : swapsWith (.DictComp kx vx [⟨tg, iter, ifs, 0⟩] scope pos) (some (.Name y py)) spos.line X.env = pure true) (hi : PI X tg iter wi) (ok : BlkOk X.N X.env.scope scope own)
    (hg : ∀ (s : Shared) (H : Hp) (C : Addr) (cl : List (Str × Addr)) (fp : List Addr), PG (X.blk s H scope (compEnvC scope cl C X.env) fp) tg g) (ht : ∀ (s : Shared) (H : Hp) (C : Addr) (cl : List (Str × Addr)) (fp : List Addr), PTs (X.blk s H scope (compEnvC scope cl C X.env) fp) ifs tt)
    (hk : ∀ (s : Shared) (H : Hp) (C : Addr) (cl : List (Str × Addr)) (fp : List Addr), PE (X.blk s H scope (compEnvC scope cl C X.env) fp) kx tk)
    (he : ∀ (s : Shared) (H : Hp) (C : Addr) (cl : List (Str × Addr)) (fp : List Addr), PE (X.blk s H scope (compEnvC scope cl C X.env) fp) vx tv) (hs : ∀ x, foldedSetIterable iter X.env x = pure x := by intro _; rfl) :
    PS X (.Assign [.Name y py] (.DictComp kx vx [⟨tg, iter, ifs, 0⟩] scope pos) spos) (tAsg (tFrz (tDc wi g tt tk tv (own.map (·.2)))) (gName i)) := by
  refine ⟨fun pins s σ H D I h => ?_⟩
  rw [exec_Assign_Name_used _ _ _ _ hsw]
  refine wpAny_bind (wpAny_standAt (wpAny_bind ?_))
  show wpAny _ X.A (do let _ ← comprehension (.DictComp kx vx [⟨tg, iter, ifs, 0⟩] scope pos) scope X.env (firstIterPos [⟨tg, iter, ifs, 0⟩] pos) newDict false (eval iter X.env) (some (assign (.Name y py) X.env))) _ _ s
  have h : tDc wi g tt tk tv (own.map (·.2)) σ H (fun v H' => ∃ d u, v = .ref d ∧ H' d = some u ∧ Mut (some u) ∧ ∀ od, gName i v σ (upd H' d (.frz od u)) D.nx) := h
  refine wpAny_bind (thn (dc_core (Qf := fun _ s' => SP X pins D .next s') hc hN I hi ok hg ht hk he hs h fun L C s' m H' I' q hn f => ?_) fun _ s' hq => wpAny_pure (wpAny_pure hq))
  obtain ⟨d, u, ed, hd, mu, q⟩ := q
  cases ed
  obtain ⟨od, I'⟩ := I'.lock hd mu
  have f' : FpOk X pins (upd H' L (.frz od u)) C := by
    obtain ⟨f0, f1, f2, f3, f4, f5⟩ := f
    exact ⟨by rw [upd_ne (fun z => by rw [z, hd] at f0; cases f0)]; exact f0, f1, f2, f3, f4, f5⟩
  show wpAny _ _ (assign (.Name y py) X.env (.ref L)) _ _ _
  refine wpAny_assign_Name (store_ok2 (v := V.ref L) I' hN hy (.inl hyl) rfl (fun s2 I2 ⟨a, sb, ha⟩ => ?_) (.inr hyl))
  obtain ⟨f0, f1, f2, f3, f4, f5⟩ := f'
  have haC : C ≠ a := by
    rcases ha with z | z
    · rw [z]; exact f1
    · exact fun e => f4 y a z e.symm
  refine ⟨m, hn.sameBut sb haC, fun h3 sb3 => ?_⟩
  exact ⟨_, _, I2.turned (t' := s2.toks) (fun b o hb e => (sb3.2 b hb).trans e) f0 f1 f3 f4 f5, q od⟩
theorem de_dc {g' : BV TG} {ag' : BV aG} {tt' : BV TT} {at'' : BV aT} {tk' : BV TE} {ak' : BV aE} {te' : BV TE} {ae' : BV aE} (hc : X.calm = true) (hN : X.N.Nodup) (hi : DI X tg iter wi awi) (ok : BlkOk X.N X.env.scope scope own)
    (hg : ∀ (s : Shared) (H : Hp) (C : Addr) (cl : List (Str × Addr)) (fp : List Addr), DG (X.blk s H scope (compEnvC scope cl C X.env) fp) tg (g' s H C cl fp) (ag' s H C cl fp)) (ht : ∀ (s : Shared) (H : Hp) (C : Addr) (cl : List (Str × Addr)) (fp : List Addr), DTs (X.blk s H scope (compEnvC scope cl C X.env) fp) ifs (tt' s H C cl fp) (at'' s H C cl fp))
    (hk : ∀ (s : Shared) (H : Hp) (C : Addr) (cl : List (Str × Addr)) (fp : List Addr), DE (X.blk s H scope (compEnvC scope cl C X.env) fp) kx (tk' s H C cl fp) (ak' s H C cl fp))
    (he : ∀ (s : Shared) (H : Hp) (C : Addr) (cl : List (Str × Addr)) (fp : List Addr), DE (X.blk s H scope (compEnvC scope cl C X.env) fp) vx (te' s H C cl fp) (ae' s H C cl fp)) (ho : OwnM (own.map (·.2)) (g' X.s_0 X.H_0 0 [] [])) (hs : ∀ x, foldedSetIterable iter X.env x = pure x := by intro _; rfl)
    (eg : ∀ s H C cl fp, g' s H C cl fp = g' X.s_0 X.H_0 0 [] [] := by intro _ _ _ _ _; rfl) (et : ∀ s H C cl fp, tt' s H C cl fp = tt' X.s_0 X.H_0 0 [] [] := by intro _ _ _ _ _; rfl) (ek : ∀ s H C cl fp, tk' s H C cl fp = tk' X.s_0 X.H_0 0 [] [] := by intro _ _ _ _ _; rfl) (ee : ∀ s H C cl fp, te' s H C cl fp = te' X.s_0 X.H_0 0 [] [] := by intro _ _ _ _ _; rfl) :
    DE X (.DictComp kx vx [⟨tg, iter, ifs, 0⟩] scope pos) (tFrz (tDc wi (g' X.s_0 X.H_0 0 [] []) (tt' X.s_0 X.H_0 0 [] []) (tk' X.s_0 X.H_0 0 [] []) (te' X.s_0 X.H_0 0 [] []) (own.map (·.2)))) (aDc awi (ag' X.s_0 X.H_0 0 [] []) (at'' X.s_0 X.H_0 0 [] []) (ak' X.s_0 X.H_0 0 [] []) (ae' X.s_0 X.H_0 0 [] []) (own.map (·.2))) :=
  ⟨pe_frz (pe_dc hc hN hi.pi ok (fun s H C cl fp => by rw [← eg s H C cl fp]; exact (hg s H C cl fp).pg) (fun s H C cl fp => by rw [← et s H C cl fp]; exact (ht s H C cl fp).pt) (fun s H C cl fp => by rw [← ek s H C cl fp]; exact (hk s H C cl fp).pe) (fun s H C cl fp => by rw [← ee s H C cl fp]; exact (he s H C cl fp).pe) hs), se_dc hi.si (hg X.s_0 X.H_0 0 [] []).sg ho (ht X.s_0 X.H_0 0 [] []).st (hk X.s_0 X.H_0 0 [] []).se (he X.s_0 X.H_0 0 [] []).se⟩
theorem ds_setDc {g' : BV TG} {ag' : BV aG} {tt' : BV TT} {at'' : BV aT} {tk' : BV TE} {ak' : BV aE} {te' : BV TE} {ae' : BV aE} {j : Nat} {y : Str} {py spos : Pos} (hc : X.calm = true) (hN : X.N.Nodup) (hy : X.N[j]? = some y) (hyl : X.env.scope.names.lookup y = some .local)
    (hsw : swapsWith (.DictComp kx vx [⟨tg, iter, ifs, 0⟩] scope pos) (some (.Name y py)) spos.line X.env = pure true) (hi : DI X tg iter wi awi) (ok : BlkOk X.N X.env.scope scope own)
    (hg : ∀ (s : Shared) (H : Hp) (C : Addr) (cl : List (Str × Addr)) (fp : List Addr), DG (X.blk s H scope (compEnvC scope cl C X.env) fp) tg (g' s H C cl fp) (ag' s H C cl fp)) (ht : ∀ (s : Shared) (H : Hp) (C : Addr) (cl : List (Str × Addr)) (fp : List Addr), DTs (X.blk s H scope (compEnvC scope cl C X.env) fp) ifs (tt' s H C cl fp) (at'' s H C cl fp))
    (hk : ∀ (s : Shared) (H : Hp) (C : Addr) (cl : List (Str × Addr)) (fp : List Addr), DE (X.blk s H scope (compEnvC scope cl C X.env) fp) kx (tk' s H C cl fp) (ak' s H C cl fp))
    (he : ∀ (s : Shared) (H : Hp) (C : Addr) (cl : List (Str × Addr)) (fp : List Addr), DE (X.blk s H scope (compEnvC scope cl C X.env) fp) vx (te' s H C cl fp) (ae' s H C cl fp)) (ho : OwnM (own.map (·.2)) (g' X.s_0 X.H_0 0 [] [])) (hs : ∀ x, foldedSetIterable iter X.env x = pure x := by intro _; rfl)
    (eg : ∀ s H C cl fp, g' s H C cl fp = g' X.s_0 X.H_0 0 [] [] := by intro _ _ _ _ _; rfl) (et : ∀ s H C cl fp, tt' s H C cl fp = tt' X.s_0 X.H_0 0 [] [] := by intro _ _ _ _ _; rfl) (ek : ∀ s H C cl fp, tk' s H C cl fp = tk' X.s_0 X.H_0 0 [] [] := by intro _ _ _ _ _; rfl) (ee : ∀ s H C cl fp, te' s H C cl fp = te' X.s_0 X.H_0 0 [] [] := by intro _ _ _ _ _; rfl) :
    DS X (.Assign [.Name y py] (.DictComp kx vx [⟨tg, iter, ifs, 0⟩] scope pos) spos) (tAsg (tFrz (tDc wi (g' X.s_0 X.H_0 0 [] []) (tt' X.s_0 X.H_0 0 [] []) (tk' X.s_0 X.H_0 0 [] []) (te' X.s_0 X.H_0 0 [] []) (own.map (·.2)))) (gName j)) (asAsg (aDc awi (ag' X.s_0 X.H_0 0 [] []) (at'' X.s_0 X.H_0 0 [] []) (ak' X.s_0 X.H_0 0 [] []) (ae' X.s_0 X.H_0 0 [] []) (own.map (·.2))) (agName j)) :=
  ⟨ps_setDc hc hN hy hyl hsw hi.pi ok (fun s H C cl fp => by rw [← eg s H C cl fp]; exact (hg s H C cl fp).pg) (fun s H C cl fp => by rw [← et s H C cl fp]; exact (ht s H C cl fp).pt) (fun s H C cl fp => by rw [← ek s H C cl fp]; exact (hk s H C cl fp).pe) (fun s H C cl fp => by rw [← ee s H C cl fp]; exact (he s H C cl fp).pe) hs, ss_asg (se_dc hi.si (hg X.s_0 X.H_0 0 [] []).sg ho (ht X.s_0 X.H_0 0 [] []).st (hk X.s_0 X.H_0 0 [] []).se (he X.s_0 X.H_0 0 [] []).se) sg_name⟩
theorem sw_trueD {gs : List Comprehension} {py : Pos} {y : Str} {l : Nat} {env : Env} (hk : env.scope.kind = .function) (hy : env.scope.names.lookup y = some .local) (hl : (py.line == pos.line) = true)
    (ha : (scope.names.any fun (n, k) => n == y && (k == .local || k == .cell)) = false) : swapsWith (.DictComp kx vx gs scope pos) (some (.Name y py)) l env = pure true := by
  have ky : env.kindOf y = some .local := hy
  have hb : env.blockKind = .function := by unfold Env.blockKind; rw [hk]; rfl
  unfold swapsWith
  simp only [hb, ky, ha, Expr.pos, hl]
  rfl
/-! ### over a locked dict: its keys -/
def aiKeys (x : aE) : aA := fun G M Q => x G M fun d M1 => match d with | .dK gs => Q (gs.map fun kv => keyD kv.1) M1 | _ => False
theorem drv_keys {N1 : Hp} {p : Addr} {ob : Obj} {kvs : List (Key × V)} {gs : List (Key × D)} (h : N1 p = some (.frz ob (.dK kvs))) (r : RelF K N1 kvs gs) : Drv K (Itk p ob kvs) (gs.map fun kv => keyD kv.1) N1 := fun E G M N σ H C s1 i => by
  have hs : H p = some (.frz ob (.dK kvs)) := C.cm.sm _ _ (s1 _ _ h)
  have hk := keysD_rel r
  have hl := r.length
  refine ⟨fun hi => ⟨hs, by rw [List.length_map] at hi; omega⟩, fun d hd => ?_⟩
  obtain ⟨x, hx, rx⟩ := hk.getR hd
  rw [List.getElem?_map] at hx
  obtain ⟨kv, hkv, rfl⟩ := Option.map_eq_some_iff.mp hx
  refine ⟨⟨hs, (List.getElem?_eq_some_iff.mp hkv).1⟩, fun v H' hv => ?_⟩
  obtain ⟨rfl, k', v', e, rfl⟩ := hv
  rw [hkv] at e
  cases e
  exact ⟨N, Same.refl _, .refl, C.cm, rx.mono s1⟩
theorem di_keys {l : Expr} {tl : TE} {al : aE} (hl : DE X l tl al) : DI X tg l (iKeys tl) (aiKeys al) := ⟨pi_keys hl.pe, by
  intro E G M N σ H C Q R q k
  refine hl.se E G M N σ H C _ _ q fun d v M1 N1 H1 h1 C1 s1 r1 => ?_
  split at h1
  · cases r1 with | dK h2 r2 =>
    exact ⟨_, _, rfl, .inl ⟨_, C1.cm.sm _ _ h2, k _ M1 N1 H1 _ h1 C1 s1 (drv_keys h2 r2)⟩⟩
  · exact h1.elim⟩
end
end DL

set_option Elab.async false
set_option linter.all false
set_option maxRecDepth 100000
namespace DL
open PySem PySem.Spec PyProof.Rows L2
/-! ### enumerate of a tuple -/
def IteT (K : PySem.W.Frag) (a : Addr) : It :=
  ⟨fun i H => ∃ (xs : List V) (x : V), SqT K H a xs ∧ xs[i]? = some x, fun i H v H' => ∃ T x, v = .ref T ∧ H T = none ∧ H' = upd H T (.tup [.int (i : Nat), x]) ∧ ∀ xs, SqT K H a xs → xs[i]? = some x, fun i H => ∃ xs : List V, SqT K H a xs ∧ xs.length ≤ i⟩
theorem enum_endT {prog : Program} {w : World} {A : Around} {E : Value → Shared → Prop} {s : Shared} {e it t : Addr} {i : Nat} {c : Int} {items : Array Value} {old : Value} {Q : Option Value → Shared → Prop} (hh : A.handled = none)
    (he : IsEnum s.heap e it c old) (hit : s.heap.IsTupleIter it t i) (ht : s.heap.IsTuple t items) (hx : items[i]? = none)
    (hQ : ∀ h', Heap.ExtBut it s.heap h' → Q none { s with heap := h' }) : wpAny (model prog w) A (pyNext (.ref e)) Q E s := by
  have hT : s.TypeIs (.ref e) "enumerate" := ⟨_, he, rfl⟩
  unfold pyNext
  refine wpAny_bind (wpAny_attempt (wpAny_callSpecial?_slot (name := Str.ofString "__next__") hT F.slot_enumerate_next
    (wpAny_call_entry F.slot_enumerate_next hT F.entry_enumerate_next ?_ (F.args_enumerate_next_1 _))))
  show wpAny _ _ (field (.ref e) 2 >>= _) _ _ _
  refine wpAny_bind (wpAny_field he rfl (x := .ref it) rfl ?_)
  refine wpAny_bind (wpAny_nextOf_tuple_end (by exact hh) hit ht hx fun h' x he' hx' => ?_)
  obtain ⟨o, ho, hc⟩ := hx'
  refine wpAny_bind (wpAny_isInstance (T := "StopIteration") (b := true) ⟨o, ho, hc⟩ isSubtype_stop ?_)
  exact wpAny_pure (hQ _ he')
theorem turn_enumT {P : Program} {w : World} {K : PySem.W.Frag} {elts : List Expr} {kk : Nat} {tpos : Pos} (a e it : Addr) (hea : e ≠ a) (hia : a ≠ it) :
    Turn P w K (.Tuple elts kk tpos) (IteT K a) [e, it] e (fun i h => (∃ old, IsEnum h e it ((i : Nat) : Int) old) ∧ h.IsTupleIter it a i ∧ e ≠ it) where
  mem := by simp
  obj := fun i h st b hb => by
    obtain ⟨⟨old, he⟩, ⟨o, ho, hc, hd⟩, _⟩ := st
    have e' : b = e ∨ b = it := by simpa using hb
    rcases e' with z | z
    · rw [z]; exact ⟨_, he, fun v q => nomatch q⟩
    · rw [z]; exact ⟨o, ho, fun v q => by rw [hd] at q; cases q⟩
  keep := fun i h h' st k => let ⟨⟨old, he⟩, hi, hne⟩ := st; ⟨⟨old, k e (by simp) _ he⟩, hi.at fun o q => k it (by simp) o q, hne⟩
  item := by
    intro X hP hw hK hc i pins s σ H E I hf st hg
    subst hP hw hK
    obtain ⟨⟨old, he⟩, hit, hne⟩ := st
    obtain ⟨xs, x, hq, hx⟩ := hg
    obtain ⟨its, rv, p, hz⟩ := I.tuple hq
    obtain ⟨u, hu, ru⟩ := rv.get hx
    have hel : e < s.heap.objs.size := Heap.lt_size he
    have hil : it < s.heap.objs.size := by obtain ⟨_, q, _⟩ := hit; exact Heap.lt_size q
    have hlt : i < its.toArray.size := by
      have := (List.getElem?_eq_some_iff.mp hu).1
      simpa using this
    refine wpAny_pyNext_enum_itemD (Draws.tuple (A := X.A.in1) (I.ok.hd hc) it a hia its.toArray) he ⟨hit, p⟩ hlt hne (by simp [hne, hea]) fun y h' tk hy ho hit' hT hsz hk => ?_
    have hyu : y = u := by
      have h1 : its.toArray[i]? = some u := by simpa using hu
      exact Option.some.inj (hy.symm.trans h1)
    subst hyu
    refine ⟨_, rfl, wpAny_letOwnedTupleGo_enum (s := { s with heap := h', toks := tk + 1 }) ho fun h'' he' sb => ?_⟩
    have hT2 : h''.get? s.heap.objs.size = some { cls := .type "tuple", data := .seq #[.int i tk, y] } := (sb.2 _ (Nat.ne_of_gt hel)).trans hT
    have new : ObjOk X.prog X.w (upd H s.heap.objs.size (.tup [.int (i : Nat), x])) h'' s.heap.objs.size (.tup [.int (i : Nat), x]) :=
      ⟨by show 2 ≤ sizeLine; decide, [.int i tk, y], .cons ⟨_, rfl⟩ (.cons ru .nil), ⟨_, hT2, rfl, _, rfl⟩⟩
    have I1 : Inv X pins σ (upd H s.heap.objs.size (.tup [.int (i : Nat), x])) { s with heap := h'', toks := tk + 1 } :=
      I.turnedNew (ch := [e, it]) (fun b ob hb q => (sb.2 b (fun z => hb (by simp [z]))).trans (hk b ob (fun z => hb (by simp [z])) (fun z => hb (by simp [z])) q)) hf (Nat.le_refl _) new
    refine ⟨.ref s.heap.objs.size, _, I1, rfl, ⟨_, x, rfl, I.hok.fresh (Nat.le_refl _), rfl, fun ys hy => by rw [I.tuple_inj hy hq]; exact hx⟩, ⟨⟨y, ?_⟩, hit'.1.at fun o q => (sb.2 it (Ne.symm hne)).trans q, hne⟩, fun b hb => ?_⟩
    · have e1 : ((i + 1 : Nat) : Int) = (i : Int) + 1 := by omega
      rw [e1]; exact he'
    · have hb' : b < s.heap.objs.size := by
        have e' : b = e ∨ b = it := by simpa using hb
        rcases e' with z | z
        · rw [z]; exact hel
        · rw [z]; exact hil
      rw [upd_ne (Nat.ne_of_lt hb')]
      exact (hf b hb).1
  done := by
    intro X hP hw hK hc i pins s σ H E I hf st hg
    subst hP hw hK
    obtain ⟨⟨old, he⟩, hit, hne⟩ := st
    obtain ⟨xs, hq, hx⟩ := hg
    obtain ⟨its, rv, p, hz⟩ := I.tuple hq
    obtain ⟨f0, f1, f2, f3, f4, f5⟩ := hf it (by simp)
    have hl := rv.length
    exact enum_endT (I.ok.hd hc) he hit p (by simp; omega) fun h' eb => ⟨rfl, I.turned (t' := s.toks) (fun b o hb q => eb b o hb q) f0 f1 f3 f4 f5⟩
  self := fun A i s Q E st h => let ⟨⟨_, he⟩, _⟩ := st; wpAny_pyIter_enum he h
set_option maxHeartbeats 1000000 in
theorem meets_enumerate_newB1 {v : Value} {o : Obj} {H : Heap → Prop} (B : Begins v o H) :
    Meets (Builtin.«enumerate.__new__» ⟨[.type "enumerate", v], []⟩) (fun _ R s => H s.heap ∧
      R (.ok (.ret (.ref (s.heap.push o).objs.size))) { s with heap := (s.heap.push o).push { cls := .type "enumerate", data := .fields #[.none, .bool false, .ref s.heap.objs.size, rawInt 0, .none, .none] } }) :=
  .of_wp fun prog w A R s h => by
    obtain ⟨hp, g, d, tk, os⟩ := s; obtain ⟨h1, h⟩ := h
    have hsub := sub_enumerate
    have q1 : ∀ {A' : Around} {E : Value → Shared → Prop} {Q : Value → Shared → Prop}, Q (.ref hp.objs.size) ⟨hp.push o, g, d, tk, os⟩ → wpAny (model prog w) A' (pyIter v) Q E ⟨hp, g, d, tk, os⟩ :=
      fun q => B.iter prog w _ _ ⟨hp, g, d, tk, os⟩ _ h1 q
    wp_walk using q1
    refine wpAny_stack_any fun st => wpAny_pure ?_
    split
    · rename_i c _ _ _ _ _
      cases (c == Value.type "enumerate")
      · wp_walk using q1
        exact ⟨_, rfl, h⟩
      · wp_walk using q1
        exact ⟨_, rfl, h⟩
    · wp_walk using q1
      exact ⟨_, rfl, h⟩
theorem enum_begins1 {prog : Program} {w : World} {A : Around} {E : Value → Shared → Prop} {s : Shared} {v : Value} {o : Obj} {H : Heap → Prop} {Q : Value → Shared → Prop} (B : Begins v o H) (h1 : H s.heap)
    (h : ∀ h', IsEnum h' (s.heap.objs.size + 1) s.heap.objs.size 0 .none → h'.get? s.heap.objs.size = some o → h'.objs.size = s.heap.objs.size + 2 →
      (∀ b o, s.heap.get? b = some o → h'.get? b = some o) → Q (.ref (s.heap.objs.size + 1)) { s with heap := h' }) :
    wpAny (model prog w) A (call (.type "enumerate") [v]) Q E s := by
  refine callType_new F.called_enumerate (by decide) (F.typeCall_enumerate_1 _) (F.newCall_enumerate_1 _) (fun obj => F.args_object_init_2 obj _) F.entry_enumerate_new
    (meets_enumerate_newB1 B) ⟨h1, ?_⟩
  have hz : (s.heap.push o).objs.size = s.heap.objs.size + 1 := Heap.size_push ..
  show _ ∧ _
  rw [hz]
  have he : IsEnum ((s.heap.push o).push { cls := .type "enumerate", data := .fields #[.none, .bool false, .ref s.heap.objs.size, rawInt 0, .none, .none] }) (s.heap.objs.size + 1) s.heap.objs.size 0 .none := by
    have := Heap.get?_push_size (s.heap.push o) (o := { cls := .type "enumerate", data := .fields #[.none, .bool false, .ref s.heap.objs.size, rawInt 0, .none, .none] }) rfl
    rw [hz] at this; exact this
  refine ⟨⟨_, he, rfl⟩, h _ he (Heap.get?_push_of_some _ (Heap.get?_push_size _ B.free)) (by rw [Heap.size_push, hz]) fun b o x => Heap.get?_push_of_some _ (Heap.get?_push_of_some _ x)⟩
def iEnumT (K : PySem.W.Frag) (ta : TA) : TI := fun σ H R => ta σ H fun vs H1 => ∃ a xs, vs = [.ref a] ∧ SqT K H1 a xs ∧ R (IteT K a) H1
theorem pi_enumT {X : Cx} {e : Expr} {ta : TA} {p pos tpos : Pos} {elts : List Expr} {kk : Nat} (hg : Gl X "enumerate") (hm : X.mg "enumerate" = none) (ha : PA X [e] ta) (hs : starEach [e] X.env = [(false, eval e X.env)] := by rfl) :
    PI X (.Tuple elts kk tpos) (.Call (.Name "enumerate" p) [e] [] pos) (iEnumT X.K ta) := by
  refine ⟨fun pins s σ H R I h => ?_⟩
  refine Call_ (ld_blt I hg hm boot_enumerate (PyProof.Rows.callWith_type1 (thn (ha.run pos pins s σ H _ I h) fun us s1 ⟨vs, H1, I1, r1, q1⟩ => ?_) hs rfl))
  obtain ⟨a, xs, ex, hq, q⟩ := q1
  subst ex
  cases r1 with
  | cons r rr =>
    cases rr
    cases r
    obtain ⟨its, rv, p', hz⟩ := I1.tuple hq
    have hal : a < s1.heap.objs.size := by obtain ⟨_, q, _⟩ := p'; exact Heap.lt_size q
    refine enum_begins1 (begins_tuple a its.toArray) p' fun h' he hit hsz hk => wpAny_pyIter_enum he ?_
    have I2 : Inv X pins σ H1 { s1 with heap := h' } := I1.kept (t' := s1.toks) hk
    refine ⟨s1.heap.objs.size + 1, [s1.heap.objs.size + 1, s1.heap.objs.size], _, _, H1, rfl, I2, turn_enumT a (s1.heap.objs.size + 1) s1.heap.objs.size (Nat.ne_of_gt (Nat.lt_succ_of_lt hal)) (Nat.ne_of_lt hal), ⟨⟨.none, he⟩, ⟨_, hit, rfl, rfl⟩, Nat.succ_ne_self _⟩, fun b hb => ?_, q⟩
    have e' : b = s1.heap.objs.size + 1 ∨ b = s1.heap.objs.size := by simpa using hb
    have hle : s1.heap.objs.size ≤ b := by
      rcases e' with z | z
      · rw [z]; exact Nat.le_add_right _ _
      · rw [z]; exact Nat.le_refl _
    exact I1.fpOk hle (I1.hok.fresh hle)
section
variable {X : Cx} {K : PySem.W.Frag} {a : Expr} {t : TA} {at1 : aA} {pos : Pos}
theorem drv_enumT {N1 : Hp} {p : Addr} {xs : List V} {ds : List D} (h : SqT K N1 p xs) (r : RelL K N1 xs ds) : Drv K (IteT K p) (enumD ds) N1 := fun E G M N σ H C s1 i =>
  have hs : SqT K H p xs := same_seqT C.cm.sm (same_seqT s1 h)
  ⟨fun hi => ⟨xs, hs, by rw [r.length]; simp only [enumD, List.length_map, List.length_zip, List.length_range] at hi; omega⟩, fun d hd => by
    obtain ⟨d1, e1, rfl⟩ := enumD_get hd
    obtain ⟨x, hx, rx⟩ := r.getR e1
    refine ⟨⟨xs, x, hs, hx⟩, fun v H' hv => ?_⟩
    obtain ⟨T, x', rfl, hT, rfl, f1⟩ := hv
    obtain rfl : x = x' := Option.some.inj (hx.symm.trans (f1 xs hs))
    have s := same_new (o := .tup [.int (i : Nat), x]) (C.cm.none hT).1
    exact ⟨_, s, fr_new hT (C.cm.none hT).1, cm_new C.cm hT, .tup upd_same (.cons (.int _) (.cons ((rx.mono s1).mono s) .nil))⟩⟩
def aiEnumT (x : aA) : aA := fun G M Q => x G M fun ds M1 => match ds with
  | [d] => isL d = false ∧ (match items d with | some xs => Q (enumD xs) M1 | _ => False)
  | _ => False
theorem di_enumT {p tpos : Pos} {elts : List Expr} {kk : Nat} (hg : Gl X "enumerate") (hm : X.mg "enumerate" = none) (ha : DA X [a] t at1) (hs : starEach [a] X.env = [(false, eval a X.env)] := by rfl) :
    DI X (.Tuple elts kk tpos) (.Call (.Name "enumerate" p) [a] [] pos) (iEnumT X.K t) (aiEnumT at1) := ⟨pi_enumT hg hm ha.pa hs, by
  intro E G M N σ H C Q R q k
  refine ha.sa E G M N σ H C _ _ q fun ds vs M1 N1 H1 h1 C1 s1 r1 => ?_
  split at h1
  · obtain ⟨v, rfl, r2⟩ := rel1 r1
    obtain ⟨h0, h1⟩ := h1
    split at h1
    · rename_i xs hx
      obtain ⟨p1, us, rfl, q2, h4⟩ := rel_items r2 hx
      rcases h4 with ⟨e4, h4⟩ | ⟨e4, h4⟩
      · rw [e4] at h0; cases h0
      · exact ⟨p1, us, rfl, same_seqT C1.cm.sm h4, k _ M1 N1 H1 _ h1 C1 s1 (drv_enumT h4 q2)⟩
    · exact h1.elim
  · exact h1.elim⟩
/-! ### list.index of ints, list.insert -/
theorem idxOf_le_get {c : Int} : ∀ {cs : List Int} {m : Nat}, cs[m]? = some c → cs.idxOf c ≤ m
  | [], m, h => by simp at h
  | x :: cs, 0, h => by
    simp at h
    subst h
    simp
  | x :: cs, m + 1, h => by
    have ih := idxOf_le_get (cs := cs) (m := m) (by simpa using h)
    rw [List.idxOf_cons]
    cases x == c <;> simp <;> omega
def fIndex : VM := fun d ds M Q => isLM d = true ∧ (match (itemsM M d).bind intsD, ds with | some cs, [.int z] => z ∈ cs ∧ Q (.int (cs.idxOf z : Nat)) M | _, _ => False)
theorem sm_index : SM K "list" (rIndex K) fIndex := by
  intro E G M N σ H C x d xs ds rx rxs Q Qc h k
  obtain ⟨h0, h⟩ := h
  split at h
  · rename_i cs z e1 
    obtain ⟨hz, h⟩ := h
    obtain ⟨us, hi, hc⟩ := Option.bind_eq_some_iff.mp e1
    obtain ⟨a, vs, rfl, r2, h4⟩ := rel_itemsM C.cm rx hi
    have ev := ints_rel r2 hc
    subst ev
    obtain ⟨v, rfl, rv⟩ := rel1 rxs
    obtain rfl := rel_int rv
    rcases h4 with ⟨_, h4⟩ | ⟨e4, _⟩
    · have hlt := List.idxOf_lt_length_of_mem hz
      refine ⟨a, _, .int z, cs.idxOf z, .int z, rfl, rfl, h4, rfl, ?_, ?_, ?_, fun m z' hm hz' => ?_, k.at C h (.int _)⟩
      · rw [List.all_eq_true]
        intro v hv
        obtain ⟨i, _, rfl⟩ := List.mem_map.mp hv
        rfl
      · rw [List.getElem?_map, List.getElem?_eq_getElem hlt, List.getElem_idxOf hlt]
        rfl
      · show (z == z) = true
        simp
      · rw [List.getElem?_map] at hz'
        obtain ⟨c, hc', rfl⟩ := Option.map_eq_some_iff.mp hz'
        show (c == z) = false
        have hn : ¬ c = z := fun e => by
          subst e
          have := idxOf_le_get hc'
          omega
        simpa using hn
    · rw [e4] at h0; cases h0
  · exact h.elim
def fInsert : VM := fun d ds M Q => match d, ds with
  | .ref a, [.int i, x] => (match M a with | some (.lst xs) => (xs.length < 1000000 ∧ 0 ≤ i ∧ i ≤ 1000000) ∧ Q .non (mupd M a (.lst (xs.take i.toNat ++ [x] ++ xs.drop i.toNat))) | _ => False)
  | _, _ => False
theorem sm_insert : SM K "list" (fun x vs H Q => ∃ (l : Addr) (xs : List V) (i : Int) (y : V), x = .ref l ∧ vs = [.int i, y] ∧ H l = some (.lst xs) ∧ xs.length < sizeLine ∧ 0 ≤ i ∧ i < 2 ^ 63 ∧
    Q .non (upd H l (.lst (xs.take i.toNat ++ [y] ++ xs.drop i.toNat)))) fInsert := by
  intro E G M N σ H C x d xs ds rx rxs Q Qc h k
  unfold fInsert at h
  split at h
  · rename_i a i y
    obtain ⟨v, w, rfl, rv, rw'⟩ := rel2 rxs
    obtain rfl := rel_int rv
    have e := rel_ref rx
    subst e
    split at h
    · rename_i ys e
      obtain ⟨vs, h1, r1⟩ := C.cm.lst e
      obtain ⟨⟨z1, z2, z3⟩, h⟩ := h
      exact ⟨a, vs, i, w, rfl, rfl, h1, by rw [r1.length]; exact big_lt (by omega), z2, by omega, k.mut C e (hasL upd_same (((r1.take _).append (.cons rw' .nil)).append (r1.drop _))) h .non⟩
    · exact h.elim
  · exact h.elim
end
/-! ### forms -/
section
variable {G : Gm} {M : Mp} {Q : QD} {d e : D} {ds : List D} {x : aE} {al : aA} {QA : List D → Mp → Prop}
def kKeys (QA : List D → Mp → Prop) (d : D) (M : Mp) : Prop := match d with | .dK gs => QA (gs.map fun kv => keyD kv.1) M | _ => False
theorem go_ikeys (h : x G M (kKeys QA)) : aiKeys x G M QA := h
theorem go_kkeys {gs : List (Key × D)} (q : QA (gs.map fun kv => keyD kv.1) M) : kKeys QA (.dK gs) M := q
def kEnumT (QA : List D → Mp → Prop) (ds : List D) (M : Mp) : Prop := match ds with
  | [d] => isL d = false ∧ (match items d with | some xs => QA (enumD xs) M | _ => False)
  | _ => False
theorem go_enumT (h : al G M (kEnumT QA)) : aiEnumT al G M QA := h
theorem go_kenumT (h : items d = some ds) (h0 : isL d = false) (q : QA (enumD ds) M) : kEnumT QA [d] M := by
  refine ⟨h0, ?_⟩
  rw [h]
  exact q
theorem go_dnil (q : Q (.dK []) M) : aDNil G M Q := q
theorem go_dc {src : aA} {g : aG} {t : aT} {kx vx : aE} {vs : List Nat} {G' : Gm} (e : wipeG G vs = G') (h : src G M fun ds M1 => ds.length ≤ 1000000 ∧ dcGo g t kx vx G' ds [] M1 fun acc M2 => Q (.dK acc) M2) : aDc src g t kx vx vs G M Q := by
  subst e; exact h
theorem getDk_dKs {gs : List (Key × D)} {kk : Key} (h2 : keyOf d = some kk) : getDk M (.dK gs) d = some (valD gs kk) := by
  simp only [getDk, h2, Option.map_some]
theorem getDk_items {o : Option D} (h : getDk M d e = some o) : itemsM M d = none ∧ ∀ z, d ≠ .str z := by
  unfold getDk at h
  split at h
  · exact ⟨rfl, fun z h => by cases h⟩
  · exact ⟨rfl, fun z h => by cases h⟩
  · split at h
    · rename_i h2
      exact ⟨itemsM_dK h2, fun z h => by cases h⟩
    · rename_i h2
      exact ⟨itemsM_dT h2, fun z h => by cases h⟩
    · cases h
  · cases h
theorem go_ixGet {y : D} (h : getDk M d e = some (some y)) (q : Q y M) : fIx d e M Q := by
  obtain ⟨h1, h2⟩ := getDk_items h
  have go : (match getDk M d e with | some (some x) => Q x M | _ => False) := by rw [h]; exact q
  unfold fIx
  cases e <;> first | exact go | skip
  simp only [h1]
  cases d <;> first | exact go | exact (h2 _ rfl).elim
theorem go_index {cs : List Int} {z : Int} {us : List D} (h : itemsM M d = some us) (h0 : isLM d = true) (hc : intsD us = some cs) (hz : z ∈ cs) (q : Q (.int (cs.idxOf z : Nat)) M) : fIndex d [.int z] M Q := by
  refine ⟨h0, ?_⟩
  rw [h]
  simp only [Option.bind_some, hc]
  exact ⟨hz, q⟩
theorem go_insert {a : Addr} {xs : List D} {i : Int} (h : M a = some (.lst xs)) (h1 : xs.length < 1000000) (h2 : 0 ≤ i) (h3 : i ≤ 1000000) (q : Q .non (mupd M a (.lst (xs.take i.toNat ++ [e] ++ xs.drop i.toNat)))) : fInsert (.ref a) [.int i, e] M Q := by
  show match M a with | some (.lst xs) => _ | _ => False
  rw [h]
  exact ⟨⟨h1, h2, h3⟩, q⟩
theorem go_any {bs : List Bool} (h : itemsM M d = some ds) (h0 : isLM d = true) (h2 : bools ds = some bs) (q : Q (.bl (bs.any _root_.id)) M) : fAny [d] M Q := by
  refine ⟨h0, ?_⟩
  rw [h]
  simp only [Option.bind_some, h2]
  exact q
/-- a dict comprehension by its turns -/
theorem go_dcI {g : aG} {t : aT} {kx vx : aE} {QK : List (Key × D) → Mp → Prop} (I : Nat → List (Key × D) → Mp → Prop) (h0 : I 0 [] M)
    (hs : ∀ i d acc M (KY : D → D → Mp → Prop) (KN : Mp → Prop), ds[i]? = some d → I i acc M → (∀ y z k M, keyOf y = some k → I (i + 1) (putD acc k z) M → KY y z M) → (∀ M, I (i + 1) acc M → KN M) →
      g d G M fun G' M1 => t G' M1 fun b M2 => if b = true then kx G' M2 fun y M3 => vx G' M3 (KY y) else KN M2) (hd : ∀ acc M, I ds.length acc M → QK acc M) : dcGo g t kx vx G ds [] M QK := by
  have main : ∀ (r : List D) (i : Nat) (acc : List (Key × D)) (M : Mp), i ≤ ds.length → ds.drop i = r → I i acc M → dcGo g t kx vx G r acc M QK := by
    intro r
    induction r with
    | nil =>
      intro i acc M hl e hi
      have h1 : ds.length ≤ i := List.drop_eq_nil_iff.mp e
      have q : i = ds.length := by omega
      subst q
      exact hd acc M hi
    | cons d r ih =>
      intro i acc M hl e hi
      have hlt : i < ds.length := by
        by_cases q : i < ds.length
        · exact q
        · rw [List.drop_eq_nil_of_le (by omega)] at e; cases e
      rw [List.drop_eq_getElem_cons hlt] at e
      injection e with e1 e2
      exact hs i d acc M (fun y z M4 => match keyOf y with | some k => dcGo g t kx vx G r (putD acc k z) M4 QK | none => False) _ (by rw [List.getElem?_eq_getElem hlt, e1]) hi (fun y z k M hk h => by
        show match keyOf y with | some k => _ | none => False
        rw [hk]
        exact ih (i + 1) _ M hlt e2 h) (fun M h => ih (i + 1) acc M hlt e2 h)
  exact main ds 0 [] M (Nat.zero_le _) rfl h0
end
end DL

set_option Elab.async false
set_option linter.all false
set_option maxRecDepth 100000
/-! DX4: sorted and min of lists of plain data. -/
namespace DL
open PySem PySem.Spec PyProof.Rows L2
open PySem.W (dataLe dataLt AllAlike Sortable EachIs minD AlikeAll alike)
/-! ### sorted -/
theorem each_vals {α : Type} {f : α → V} : ∀ {us : List Value} {bs : List α}, EachIs (fun u b => RelV (f b) u) us bs → Vals (bs.map f) us
  | _, _, .nil => .nil
  | _, _, .cons h t => .cons h (each_vals t)
theorem vals_each {K : PySem.W.Frag} {H : Hp} : ∀ {xs : List V} {ps : List PyData} {us : List Value}, Vals xs us → DpAll K H xs ps → EachIs (fun u b => RelV b.1 u) us (xs.zip ps)
  | _, _, _, .nil, .nil => .nil
  | _, _, _, .cons r t, .cons _ d => .cons r (vals_each t d)
theorem dp_zip {K : PySem.W.Frag} {H : Hp} : ∀ {xs : List V} {ps : List PyData}, DpAll K H xs ps → (xs.zip ps).map (·.2) = ps ∧ (xs.zip ps).length = xs.length ∧ xs.length = ps.length
  | _, _, .nil => ⟨rfl, rfl, rfl⟩
  | _, _, .cons _ d => by
    obtain ⟨a, b, c⟩ := dp_zip d
    simp [a, b, c]
section
variable {X : Cx}
theorem each_reads {pins : List (Addr × Obj)} {σ : L2.St} {H : Hp} {s : Shared} (I : L2.Inv X pins σ H s) : ∀ {xs : List V} {ps : List PyData} {us : List Value}, Vals xs us → DpAll X.K H xs ps → EachIs (fun u b => ∃ as, Reads s.heap u b.2 as) us (xs.zip ps)
  | _, _, _, .nil, .nil => .nil
  | _, _, _, .cons r t, .cons h d => .cons (Dp.reads I _ _ _ h r) (each_reads I t d)
def rSortedD (K : PySem.W.Frag) : List V → Hp → VK → Prop := fun vs H Q => ∃ (a : Addr) (xs : List V) (ps : List PyData), vs = [.ref a] ∧ SqL K H a xs ∧ DpAll K H xs ps ∧ AllAlike ps ∧ Sortable ps ∧ (∀ p ∈ ps, p.depth ≤ 60) ∧
  ∀ q, H q = none → Q (.ref q) (upd H q (.lst (((xs.zip ps).mergeSort (dataLe false (·.2))).map (·.1))))
theorem cr_sortedD (hu : X.A.units + 64 < cLine) : CallR X (.builtin "sorted") (rSortedD X.K) := by
  intro pins s σ H vs us Q I r h
  obtain ⟨a, xs, ps, rfl, hs, hd, hal, hso, hdep, q⟩ := h
  obtain ⟨its, rv, hl, hz⟩ := I.list hs
  rw [Vals.ref1 r]
  obtain ⟨z1, z2, z3⟩ := dp_zip hd
  refine PySem.W.sorted_data (bs := xs.zip ps) (enc := (·.2)) hl.isList (vals_each rv hd) (each_reads I rv hd) (by rw [z1]; exact hal) (by rw [z1]; exact hso) (by rw [z2]; exact hz) (fun b hb => ?_) fun out h1 h2 => ?_
  · have := hdep b.2 (by rw [← z1]; exact List.mem_map.mpr ⟨b, hb, rfl⟩)
    show X.A.units + 2 + b.2.depth < cLine
    omega
  obtain ⟨ep, he'⟩ := PyProof.Rows.sortedAll_at s.heap its out.toArray
  have hlen : (((xs.zip ps).mergeSort (dataLe false (·.2))).map (·.1)).length ≤ sizeLine := by
    rw [List.length_map, List.length_mergeSort, z2]
    exact hz
  exact ⟨.ref _, upd H (s.heap.objs.size + 1) (.lst (((xs.zip ps).mergeSort (dataLe false (·.2))).map (·.1))), I.laid (t' := s.toks) (fun _ _ => PyProof.Rows.sortedAll_old) (Nat.le_succ _) ⟨hlen, out, ep, each_vals h2, he'⟩, rfl, q _ (I.hok.fresh (Nat.le_succ _))⟩
end
theorem toPys_map : ∀ ds : List D, toPys ds = ds.map toPy
  | [] => rfl
  | d :: ds => by rw [toPys, toPys_map ds]; rfl
theorem eqOks_all {n : Nat} : ∀ {ds : List D}, (∀ d ∈ ds, eqOk n d = true) → eqOks n ds = true
  | [], _ => by simp [eqOks]
  | d :: ds, h => by
    simp only [eqOks, Bool.and_eq_true]
    exact ⟨h d (by simp), eqOks_all fun e he => h e (by simp [he])⟩
/-- sorted(x) of a list of plain data that can be compared -/
def fSorted : VL := fun ds M Q => match ds with
  | [d] => isLM d = true ∧ (match itemsM M d with | some xs => (∀ x ∈ xs, eqOk 9 x = true) ∧ AllAlike (xs.map toPy) ∧ Sortable (xs.map toPy) ∧ Q (.list (xs.mergeSort (dataLe false toPy))) M | none => False)
  | _ => False
section
variable {K : PySem.W.Frag}
theorem rel_sort {N : Hp} {vs : List V} {ys : List D} (r : RelL K N vs ys) : RelL K N (((vs.zip (ys.map toPy)).mergeSort (dataLe false (·.2))).map (·.1)) (ys.mergeSort (dataLe false toPy)) := by
  have e1 : vs.zip (ys.map toPy) = (vs.zip ys).map fun b => (b.1, toPy b.2) := by
    rw [List.zip_map_right]
    rfl
  have e2 : (vs.zip ys).map (·.2) = ys := List.map_snd_zip (Nat.le_of_eq r.length.symm)
  have s1 : ((vs.zip ys).mergeSort (dataLe false fun b => toPy b.2)).map (fun b => (b.1, toPy b.2)) = (vs.zip (ys.map toPy)).mergeSort (dataLe false (·.2)) := by
    rw [e1]
    exact PySem.W.sort_maps (fun b : V × D => (b.1, toPy b.2)) fun a _ b _ => rfl
  have s2 : ((vs.zip ys).mergeSort (dataLe false fun b => toPy b.2)).map (·.2) = ys.mergeSort (dataLe false toPy) := by
    have := PySem.W.sort_maps (r := dataLe false fun b : V × D => toPy b.2) (s := dataLe false toPy) (fun b : V × D => b.2) (l := vs.zip ys) fun a _ b _ => rfl
    rw [this, e2]
  rw [← s1, ← s2, List.map_map]
  have hm : ∀ b ∈ (vs.zip ys).mergeSort (dataLe false fun b => toPy b.2), RelD K N b.1 b.2 := fun b hb => by
    have hb := (List.mergeSort_perm _ _).mem_iff.mp hb
    obtain ⟨i, hi⟩ := List.getElem?_of_mem hb
    obtain ⟨h1, h2⟩ := List.getElem?_zip_eq_some.mp hi
    obtain ⟨d, h3, h4⟩ := r.get h1
    rw [h2] at h3
    cases h3
    exact h4
  generalize (vs.zip ys).mergeSort (dataLe false fun b => toPy b.2) = L at hm
  clear s1 s2 e1 e2 r
  induction L with
  | nil => exact .nil
  | cons b L ih => exact .cons (hm b (by simp)) (ih fun c hc => hm c (by simp [hc]))
theorem dp_depth {d : D} (h : eqOk 9 d = true) : (toPy d).depth ≤ 60 := by
  obtain ⟨h1, h2⟩ := shaped_of 9 d h
  omega
theorem sl_sorted : SL K (rSortedD K) fSorted := by
  intro E G M N σ H C xs ds rx Q Qc h k
  unfold fSorted at h
  split at h
  · obtain ⟨v, rfl, r⟩ := rel1 rx
    obtain ⟨h0, h⟩ := h
    split at h
    · rename_i ys hi
      obtain ⟨a, vs, rfl, r2, h4⟩ := rel_itemsM C.cm r hi
      rw [h0] at h4
      obtain ⟨h1, h2, h3, h⟩ := h
      rcases h4 with ⟨_, h4⟩ | ⟨e, _⟩
      · refine ⟨a, vs, ys.map toPy, rfl, h4, ?_, h2, h3, fun p hp => ?_, fun l hl => k.new C hl h fun N' s e => .list e ((rel_sort r2).mono s)⟩
        · rw [← toPys_map]
          exact dps_of C.cm.sm 9 _ _ (eqOks_all h1) r2
        · obtain ⟨d, hd, rfl⟩ := List.mem_map.mp hp
          exact dp_depth (h1 d hd)
      · cases e
    · exact h.elim
  · exact h.elim
end
/-! ### min of a list of plain data -/
def rMinD (K : PySem.W.Frag) : List V → Hp → VK → Prop := fun vs H Q => ∃ (a : Addr) (xs : List V) (p : PyData) (ps : List PyData), vs = [.ref a] ∧ SqL K H a xs ∧ DpAll K H xs (p :: ps) ∧ AlikeAll (p :: ps) ∧ PyData.depthAll (p :: ps) ≤ 60 ∧
  ∀ (i : Nat) x, xs[i]? = some x → (p :: ps)[i]? = some (minD p ps) → Q x H
section
variable {X : Cx}
theorem dp_readsAll {pins : List (Addr × Obj)} {σ : L2.St} {H : Hp} {s : Shared} (I : L2.Inv X pins σ H s) {xs : List V} {ps : List PyData} {us : List Value} (r : Vals xs us) (h : DpAll X.K H xs ps) : ∃ as, ReadsAll s.heap us ps as := Dp.readsAll I _ _ _ h r
theorem vals_at : ∀ {xs : List V} {us : List Value} {i : Nat} {u : Value}, Vals xs us → us[i]? = some u → ∃ x, xs[i]? = some x ∧ RelV x u
  | _, _, i, u, .nil, e => by simp at e
  | _, _, 0, u, .cons r _, e => by simp at e; subst e; exact ⟨_, rfl, r⟩
  | _, _, i + 1, u, .cons _ t, e => by
    obtain ⟨x, h1, h2⟩ := vals_at (i := i) (u := u) t (by simpa using e)
    exact ⟨x, by simpa using h1, h2⟩
theorem dp_at {K : PySem.W.Frag} {H : Hp} : ∀ {xs : List V} {ps : List PyData} {i : Nat} {x : V} {p : PyData}, DpAll K H xs ps → xs[i]? = some x → ps[i]? = some p → Dp K H x p
  | _, _, i, x, p, .nil, h, _ => by simp at h
  | _, _, 0, x, p, .cons h1 _, h, h' => by simp at h h'; subst h; subst h'; exact h1
  | _, _, i + 1, x, p, .cons _ h2, h, h' => dp_at (i := i) h2 (by simpa using h) (by simpa using h')
theorem cr_minD (hc : X.calm = true) (hu : X.A.units + 64 < cLine) : CallR X (.builtin "min") (rMinD X.K) := by
  intro pins s σ H vs us Q I r h
  obtain ⟨a, xs, p, ps, rfl, hs, hd, hal, hdep, q⟩ := h
  obtain ⟨its, rv, hl, hz⟩ := I.list hs
  rw [Vals.ref1 r]
  obtain ⟨as, hr⟩ := dp_readsAll I rv hd
  refine PySem.W.min_list_data (I.ok.hd hc) hl.isList (x := p) (xs := ps) (as := as) (by simpa using hr) hal (by omega) fun i v h' tk bs hv hm hk => ?_
  have hv : its[i]? = some v := by simpa using hv
  obtain ⟨x, hx, rx⟩ := vals_at rv hv
  have J : L2.Inv X pins σ H { s with heap := h', toks := tk } := I.kept hk
  refine ⟨x, H, J, rx, q i x hx ?_⟩
  have hi : i < (p :: ps).length := by
    have h1 := (List.getElem?_eq_some_iff.mp hx).1
    have h2 := (dp_zip hd).2.2
    omega
  have e : (p :: ps)[i]? = some ((p :: ps)[i]'hi) := List.getElem?_eq_getElem hi
  rw [e]
  have hdx : Dp X.K H x ((p :: ps)[i]'hi) := dp_at hd hx e
  obtain ⟨as', hr'⟩ := Dp.reads J _ _ _ hdx rx
  exact congrArg some (PySem.Reads.unique hr' _ _ hm).1
end
/-- min(x) of a list of plain data that can be compared -/
def fMinD : VL := fun ds M Q => match ds with
  | [d] => isLM d = true ∧ (match itemsM M d with | some xs => eqOk 9 (.list xs) = true ∧ AlikeAll (xs.map toPy) ∧ xs ≠ [] ∧ (∀ x ∈ xs, ∀ y r, xs = y :: r → toPy x = minD (toPy y) (r.map toPy) → Q x M) | none => False)
  | _ => False
section
variable {K : PySem.W.Frag}
theorem sl_minD : SL K (rMinD K) fMinD := by
  intro E G M N σ H C xs ds rx Q Qc h k
  unfold fMinD at h
  split at h
  · obtain ⟨v, rfl, r⟩ := rel1 rx
    obtain ⟨h0, h⟩ := h
    split at h
    · rename_i ys hi
      obtain ⟨a, vs, rfl, r2, h4⟩ := rel_itemsM C.cm r hi
      rw [h0] at h4
      obtain ⟨h1, h2, h3, h⟩ := h
      rcases h4 with ⟨_, h4⟩ | ⟨e, _⟩
      · obtain ⟨y, ys', rfl⟩ := List.exists_cons_of_ne_nil h3
        have hdp := dps_of C.cm.sm 8 _ _ (by simpa [eqOk] using h1) r2
        rw [toPys_map] at hdp
        have hsh := (shaped_of 9 _ h1).2
        refine ⟨a, vs, toPy y, ys'.map toPy, rfl, h4, hdp, h2, ?_, fun i x hx hp => ?_⟩
        · rw [← List.map_cons, ← toPys_map]
          rw [toPy] at hsh
          simp only [PyData.depth] at hsh
          omega
        · obtain ⟨d, hd, rd⟩ := r2.get hx
          refine k.at C (h d (List.mem_of_getElem? hd) y ys' rfl ?_) rd
          have : ((y :: ys').map toPy)[i]? = some (toPy d) := by rw [List.getElem?_map, hd]; rfl
          rw [List.map_cons, hp] at this
          exact (Option.some.inj this).symm
      · cases e
    · exact h.elim
  · exact h.elim
end
/-- sorted(d) of a dict with whole keys -/
def intKeys : List (Key × D) → Option (List Int)
  | [] => some []
  | (.inl i, _) :: r => (intKeys r).map (i :: ·)
  | _ :: _ => none
def fSortedK : VL := fun ds M Q => match ds with
  | [.ref a] => (match M a with | some (.dK gs) => (match intKeys gs with | some ks => ks.length < 64 ∧ ∀ ys : List Int, ys.Perm ks → ys.Pairwise (· ≤ ·) → Q (.list (ys.map .int)) M | none => False) | _ => False)
  | _ => False
section
variable {K : PySem.W.Frag}
theorem intKeys_rel {N : Hp} : ∀ {kvs : List (Key × V)} {gs : List (Key × D)} {ks : List Int}, RelF K N kvs gs → intKeys gs = some ks → kvs.map (·.1) = ks.map Sum.inl
  | _, _, ks, .nil, h => by simp [intKeys] at h; subst h; rfl
  | _, (.inl i, d) :: gs, ks, .cons h1 r, h => by
    simp only [intKeys, Option.map_eq_some_iff] at h
    obtain ⟨ks', h2, rfl⟩ := h
    rw [List.map_cons, intKeys_rel r h2]
    rfl
  | _, (.inr i, d) :: gs, ks, .cons h1 r, h => by simp [intKeys] at h
theorem rel_ints {N : Hp} : ∀ ys : List Int, RelL K N (ys.map V.int) (ys.map D.int)
  | [] => .nil
  | y :: ys => .cons (.int y) (rel_ints ys)
theorem sl_sortedK : SL K (fun xs H Q => ∃ (a : Addr) (kvs : List (Key × V)) (ks : List Int), xs = [.ref a] ∧ Rd H a (.dK kvs) ∧ kvs.map (·.1) = ks.map Sum.inl ∧ ks.length < 64 ∧
    ∀ (ys : List Int) (p : Addr), ys.Perm ks → ys.Pairwise (· ≤ ·) → H p = none → Q (.ref p) (upd H p (.lst (ys.map V.int)))) fSortedK := by
  intro E G M N σ H C xs ds rx Q Qc h k
  unfold fSortedK at h
  split at h
  · rename_i a
    obtain ⟨v, rfl, r⟩ := rel1 rx
    have e := rel_ref r
    subst e
    split at h
    · rename_i gs hM
      split at h
      · rename_i ks hk
        obtain ⟨kvs, hd, rf⟩ := C.cm.dKs hM
        exact ⟨a, kvs, ks, rfl, .of hd, intKeys_rel rf hk, h.1, fun ys p h1 h2 hp => k.new C hp (h.2 ys h1 h2) fun N' s e => .list e (rel_ints ys)⟩
      · exact h.elim
    · exact h.elim
  · exact h.elim
end
/-! ### list(range(n)) -/
def fListRg : V1 := fun d M Q => match d with
  | .int n => n ≤ 1000000 ∧ -1000000 ≤ n ∧ Q (.list (rng 0 n.toNat)) M
  | _ => False
section
variable {X : Cx} {K : PySem.W.Frag} {a : Expr} {ta : TE} {aa : aE}
theorem rel_rng {N : Hp} (lo : Int) : ∀ l : List Nat, RelL K N (l.map fun (i : Nat) => V.int (lo + (i : Int))) (l.map fun (j : Nat) => D.int (lo + (j : Int)))
  | [] => .nil
  | i :: l => .cons (.int _) (rel_rng lo l)
theorem de_listRg {p p2 pos pos2 : Pos} (hg : Gl X "list") (hm : X.mg "list" = none) (hg2 : Gl X "range") (hm2 : X.mg "range" = none) (ha : DE X a ta aa) (hc : X.calm = true := by rfl) (na : starEach [a] X.env = (false, eval a X.env) :: starEach [] X.env := by rfl)
    (na2 : starEach [Expr.Call (.Name "range" p2) [a] [] pos2] X.env = (false, eval (Expr.Call (.Name "range" p2) [a] [] pos2) X.env) :: starEach [] X.env := by rfl) :
    DE X (.Call (.Name "list" p) [.Call (.Name "range" p2) [a] [] pos2] [] pos) (tLstRg (tRg1 ta)) (aUn fListRg aa) := ⟨pe_listRg hc hg hm (prg_1 hg2 hm2 ha.pe na) na2, by
  intro E G M N σ H C Q Qc h k
  refine ha.se E G M N σ H C _ _ h fun d v M1 N1 H1 h1 C1 s1 r1 => ?_
  unfold fListRg at h1
  split at h1
  · cases r1
    rename_i n
    refine ⟨n, rfl, ⟨by omega, by omega, by omega, by omega, by omega⟩, fun q hq => (k.from s1).new C1 hq h1.2.2 fun N' s e => .list e ?_⟩
    unfold rgV
    rw [Int.sub_zero]
    exact rel_rng 0 _
  · exact h1.elim⟩
end
section
variable {M : Mp} {Q : QD} {al : aE} {G : Gm}
theorem go_listRg {n : Int} (h1 : n ≤ 1000000) (h2 : -1000000 ≤ n) (q : Q (.list (rng 0 n.toNat)) M) : fListRg (.int n) M Q := ⟨h1, h2, q⟩
theorem go_sorted {d : D} {xs : List D} (h0 : isLM d = true) (h : itemsM M d = some xs) (h1 : ∀ x ∈ xs, eqOk 9 x = true) (h2 : PySem.W.AllAlike (xs.map toPy)) (h3 : PySem.W.Sortable (xs.map toPy)) (q : Q (.list (xs.mergeSort (PySem.W.dataLe false toPy))) M) : fSorted [d] M Q := by
  unfold fSorted
  simp only [h]
  exact ⟨h0, h1, h2, h3, q⟩
theorem go_sortedK {a : Addr} {gs : List (Key × D)} {ks : List Int} (h : M a = some (.dK gs)) (h1 : intKeys gs = some ks) (h2 : ks.length < 64) (q : ∀ ys : List Int, ys.Perm ks → ys.Pairwise (· ≤ ·) → Q (.list (ys.map .int)) M) : fSortedK [.ref a] M Q := by
  unfold fSortedK
  simp only [h, h1]
  exact ⟨h2, q⟩
theorem go_minD {d : D} {xs : List D} (h0 : isLM d = true) (h : itemsM M d = some xs) (h1 : eqOk 9 (.list xs) = true) (h2 : PySem.W.AlikeAll (xs.map toPy)) (h3 : xs ≠ []) (q : ∀ x ∈ xs, ∀ y r, xs = y :: r → toPy x = PySem.W.minD (toPy y) (r.map toPy) → Q x M) : fMinD [d] M Q := by
  unfold fMinD
  simp only [h]
  exact ⟨h0, h1, h2, h3, q⟩
end
/-! ### d.get(k, x) -/
def isDct (M : Mp) : D → Bool
  | .dK _ => true
  | .dT _ => true
  | .ref a => (match M a with | some (.dK _) => true | some (.dT _) => true | _ => false)
  | _ => false
def aDGet2 (ad ay ax : aE) : aE := fun G M Q => ad G M fun d M1 => isDct M1 d = true ∧ ay G M1 fun y M2 => ax G M2 fun z M3 => ∃ o, getDk M3 d y = some o ∧ Q (o.getD z) M3
section
variable {X : Cx} {K : PySem.W.Frag} {o e f : Expr} {apos cpos : Pos} {td ty tx : TE} {ad ay ax : aE}
theorem isDct_rel {M : Mp} {N H : Hp} {v : V} {d : D} (c : CM K M N H) (r : RelD K N v d) (h : isDct M d = true) : ∃ a, v = .ref a ∧ IsD H a := by
  unfold isDct at h
  split at h
  · cases r with | dK h1 r1 => exact ⟨_, rfl, .inl ⟨_, .inr ⟨_, c.sm _ _ h1⟩⟩⟩
  · cases r with | dT h1 r1 => exact ⟨_, rfl, .inr ⟨_, .inr ⟨_, c.sm _ _ h1⟩⟩⟩
  · have e := rel_ref r
    subst e
    split at h
    · rename_i e
      obtain ⟨kvs, h1, _⟩ := c.dKs e
      exact ⟨_, rfl, .inl ⟨_, .of h1⟩⟩
    · rename_i e
      obtain ⟨kvs, h1, _⟩ := c.dTs e
      exact ⟨_, rfl, .inr ⟨_, .of h1⟩⟩
    · cases h
  · cases h
theorem de_dget2 (hu : X.A.units + 1 < cLine) (ho : DE X o td ad) (he : DE X e ty ay) (hf : DE X f tx ax) (m : M2 X o "get" apos e f cpos) : DE X (.Call (.Attribute o "get" apos) [e, f] [] cpos) (tDGet2 td ty tx) (aDGet2 ad ay ax) := ⟨pe_dget2 hu ho.pe he.pe hf.pe m, by
  intro E G M N σ H C Q Qc h k
  refine ho.se E G M N σ H C _ _ h fun d v M1 N1 H1 h1 C1 s1 r1 => ?_
  obtain ⟨hd, h1⟩ := h1
  obtain ⟨a, rfl, ha⟩ := isDct_rel C1.cm r1 hd
  refine ⟨a, rfl, ha, ?_⟩
  refine he.se E G M1 N1 σ H1 C1 _ _ h1 fun y u M2 N2 H2 h2 C2 s2 r2 => ?_
  refine hf.se E G M2 N2 σ H2 C2 _ _ h2 fun z w M3 N3 H3 h3 C3 s3 r3 => ?_
  obtain ⟨od, hg, q⟩ := h3
  obtain ⟨a', oV, ea, g, e⟩ := dget_of C3.cm (r1.mono (s2.trans s3)) (r2.mono s3) hg
  cases ea
  refine ⟨oV, g, ?_⟩
  have kk := k.from (s1.trans (s2.trans s3))
  rcases e with ⟨rfl, rfl⟩ | ⟨x1, x2, rfl, rfl, r⟩
  · exact kk.at C3 q r3
  · exact kk.at C3 q r⟩
theorem go_dget2 {G : Gm} {M : Mp} {Q : QD} (h : ad G M fun d M1 => isDct M1 d = true ∧ ay G M1 fun y M2 => ax G M2 fun z M3 => ∃ o, getDk M3 d y = some o ∧ Q (o.getD z) M3) : aDGet2 ad ay ax G M Q := h
end
theorem isDctK {M : Mp} {a : Addr} {gs : List (Key × D)} (h : M a = some (.dK gs)) : isDct M (.ref a) = true := by
  unfold isDct
  simp only [h]
theorem isDctT {M : Mp} {a : Addr} {gs : List (List Key × D)} (h : M a = some (.dT gs)) : isDct M (.ref a) = true := by
  unfold isDct
  simp only [h]
/-! ### d[k] as a target, and two targets -/
def rSetDk : V → V → V → Hp → (Hp → Prop) → Prop := fun x y v H Q => ∃ a H', x = .ref a ∧ DPut H a y v H' ∧ Q H'
def agSubD (x y : aE) : aG := fun d G M Q => x G M fun o M1 => y G M1 (kDPut G Q d o)
def asAsg2 (x : aE) (g g' : aG) : aS := fun A G M => x G M fun d M1 => g d G M1 fun G2 M2 => g' d G2 M2 A.nx
section
variable {X : Cx} {K : PySem.W.Frag} {o i e tg tg2 : Expr} {to ti te : TE} {ao ai ae : aE} {pos : Pos} {g g' : TG} {ag ag' : aG}
theorem set_dictk (hu : X.A.units + 1 < cLine) : PSet X rSetDk := by
  intro pins s σ H x y v ov iv u Q I rx ry rv h
  obtain ⟨a, H', rfl, g, q⟩ := h
  obtain rfl : ov = Value.ref a := rx
  exact d_setItem hu I g ry rv fun s4 I4 => ⟨H', I4, q⟩
theorem dg_subD (hu : X.A.units + 1 < cLine) (ho : DE X o to ao) (hi : DE X i ti ai) (ha : ∀ v, assign (.Subscript o i pos) X.env v = (do
      let ov ← holding [v] (eval o X.env)
      let iv ← holding [v, ov] (eval i X.env)
      standAt pos
      holding [v, ov, iv] (setItem ov iv v)
      release [v, ov, iv] []) := by intro _; rfl) : DG X (.Subscript o i pos) (gSub to ti rSetDk) (agSubD ao ai) := ⟨pg_sub ho.pe hi.pe (set_dictk hu) ha, by
  intro E G M N σ H C v d r Q Qc q k
  refine ho.se E G M N σ H C _ _ q fun x xv M1 N1 H1 h1 C1 s1 r1 => ?_
  refine hi.se E G M1 N1 σ H1 C1 _ _ h1 fun y yv M2 N2 H2 h2 C2 s2 r2 => ?_
  unfold kDPut at h2
  split at h2
  · have e := rel_ref (r1.mono s2)
    subst e
    split at h2
    · rename_i c hc
      unfold putDk at hc
      split at hc
      · rename_i gs e
        split at hc
        · rename_i hl
          obtain ⟨kk, e1, rfl⟩ := Option.map_eq_some_iff.mp hc
          obtain ⟨kvs, hd, rf⟩ := C2.cm.dKs e
          have e3 := key_rel r2 e1
          subst e3
          refine ⟨_, _, rfl, .k hd (by rw [rf.length]; exact big_lt (Nat.le_of_lt hl)), ?_⟩
          exact k _ _ N2 _ _ h2 (C2.mut e (hasK upd_same (rf.put kk ((r.mono s1).mono s2)))) (s1.trans s2)
        · cases hc
      · rename_i gs e
        split at hc
        · rename_i hl
          obtain ⟨kk, e1, rfl⟩ := Option.map_eq_some_iff.mp hc
          obtain ⟨kvs, hd, rf⟩ := C2.cm.dTs e
          obtain ⟨b, rfl, hb⟩ := keyT_rel r2 e1
          refine ⟨_, _, rfl, .t hd (C2.cm.sm _ _ hb) (by rw [rf.length]; exact big_lt (Nat.le_of_lt hl)), ?_⟩
          exact k _ _ N2 _ _ h2 (C2.mut e (hasT upd_same (rf.put kk ((r.mono s1).mono s2)))) (s1.trans s2)
        · cases hc
      · cases hc
    · exact h2.elim
  · exact h2.elim⟩
theorem ds_asg2 (he : DE X e te ae) (h1 : DG X tg g ag) (h2 : DG X tg2 g' ag') (ha : (assignEach [tg, tg2] X.env).map (·.2) = [assign tg X.env, assign tg2 X.env] := by rfl) (hw : swappedStores [tg, tg2] e X.env = pure none := by rfl) :
    DS X (.Assign [tg, tg2] e pos) (tAsg2 te g g') (asAsg2 ae ag ag') := ⟨ps_asg2 he.pe h1.pg h2.pg ha hw, by
  intro E G M N σ H C A B m0 q k
  refine he.se E G M N σ H C _ _ q fun d v M1 N1 H1 h1' C1 s1 r1 => ?_
  refine h1.sg E G M1 N1 σ H1 C1 v d r1 _ _ h1' fun G2 M2 N2 σ2 H2 q2 C2 s2 => ?_
  exact h2.sg E G2 M2 N2 σ2 H2 C2 v d (r1.mono s2) _ _ q2 fun G' M' N' σ' H' q' C' s' => k.nx G' M' N' σ' H' q' C' (s1.trans (s2.trans s'))⟩
end
section
variable {x y : aE} {g g' : aG} {u : aS} {G : Gm} {M m0 : Mp} {d : D} {QG nx : Gm → Mp → Prop} {rt : QD} {bk ct : Gm → Mp → Prop}
theorem go_subD (h : x G M fun o M1 => y G M1 (kDPut G QG d o)) : agSubD x y d G M QG := h
theorem go_asg2 (h : x G M fun d M1 => g d G M1 fun G2 M2 => g' d G2 M2 nx) : asAsg2 x g g' ⟨m0, nx, rt, bk, ct⟩ G M := h
theorem go_sAsg2 (h : asAsg2 x g g' ⟨m0, cvU u ⟨m0, nx, rt, bk, ct⟩, rt, bk, ct⟩ G M) : asSeq (asAsg2 x g g') u ⟨m0, nx, rt, bk, ct⟩ G M := h
end
section
variable {M : Mp} {Q : QD}
theorem go_min2 {i j : Int} (q : Q (.int (if j < i then j else i)) M) : fMin2 [.int i, .int j] M Q := q
theorem go_max2 {i j : Int} (q : Q (.int (if j > i then j else i)) M) : fMax2 [.int i, .int j] M Q := q
end
end DL

set_option Elab.async false
set_option linter.all false
set_option maxRecDepth 100000
/-! DX5: bits: xor, ~, bit_length; list(range(n)) that still changes. -/
namespace DL
open PySem PySem.Spec PyProof.Rows L2
section
variable {X : Cx} {K : PySem.W.Frag} {a b : Expr} {ta tb : TE} {aa ab : aE} {pos : Pos}
abbrev fXor : V2 := fI0 fun i j => .int (Builtin.bitXor i j)
theorem de_bxor (ha : DE X a ta aa) (hb : DE X b tb ab) : DE X (.BinOp a .BitXor b pos) (tOp (rI0 fun i j => .int (Builtin.bitXor i j)) ta tb) (aBin fXor aa ab) := ⟨pe_op op_xor ha.pe hb.pe, se_op (s2_I0 fun _ _ _ => .int _) ha.se hb.se⟩
def fInv : V1 := fun d M Q => match d with
  | .int i => Q (.int (Builtin.bitNot i)) M
  | _ => False
theorem s1_inv : S1 K (rU fun i => .int (Builtin.bitNot i)) fInv := by
  intro E G M N σ H C x d rx Q Qc h k
  unfold fInv at h
  split at h
  · cases rx
    exact ⟨_, rfl, k.at C h (.int _)⟩
  · exact h.elim
theorem de_inv (ha : DE X a ta aa) : DE X (.UnaryOp .Invert a pos) (tUn (rU fun i => .int (Builtin.bitNot i)) ta) (aUn fInv aa) := ⟨pe_un un_inv ha.pe, se_un s1_inv ha.se⟩
def fBits : V1 := fun d M Q => match d with
  | .int i => Q (.int (Builtin.Int.intBits i : Nat)) M
  | _ => False
theorem de_bits {apos : Pos} (ha : DE X a ta aa) (hbase : attributeBase a "bit_length" X.env (eval a X.env) = eval a X.env := by rfl) (hline : (apos.endLine == pos.line) = true := by rfl) : DE X (.Call (.Attribute a "bit_length" apos) [] [] pos) (tBits ta) (aUn fBits aa) := ⟨pe_bits ha.pe hbase hline, by
  intro E G M N σ H C Q Qc h k
  refine ha.se E G M N σ H C _ _ h fun d v M1 N1 H1 h1 C1 s1 r1 => ?_
  unfold fBits at h1
  split at h1
  · cases r1
    exact ⟨_, rfl, (k.from s1).at C1 h1 (.int _)⟩
  · exact h1.elim⟩
def fListRgM : V1 := fun d M Q => match d with
  | .int n => n ≤ 1000000 ∧ -1000000 ≤ n ∧ ∀ p, M p = none → Q (.ref p) (mupd M p (.lst (rng 0 n.toNat)))
  | _ => False
theorem de_listRgM {p p2 pos pos2 : Pos} (hg : Gl X "list") (hm : X.mg "list" = none) (hg2 : Gl X "range") (hm2 : X.mg "range" = none) (ha : DE X a ta aa) (hc : X.calm = true := by rfl) (na : starEach [a] X.env = (false, eval a X.env) :: starEach [] X.env := by rfl)
    (na2 : starEach [Expr.Call (.Name "range" p2) [a] [] pos2] X.env = (false, eval (Expr.Call (.Name "range" p2) [a] [] pos2) X.env) :: starEach [] X.env := by rfl) :
    DE X (.Call (.Name "list" p) [.Call (.Name "range" p2) [a] [] pos2] [] pos) (tLstRg (tRg1 ta)) (aUn fListRgM aa) := ⟨pe_listRg hc hg hm (prg_1 hg2 hm2 ha.pe na) na2, by
  intro E G M N σ H C Q Qc h k
  refine ha.se E G M N σ H C _ _ h fun d v M1 N1 H1 h1 C1 s1 r1 => ?_
  unfold fListRgM at h1
  split at h1
  · cases r1
    rename_i n
    refine ⟨n, rfl, ⟨by omega, by omega, by omega, by omega, by omega⟩, fun q hq => (k.from s1).newM C1 hq (hasL upd_same ?_) (h1.2.2 q (C1.cm.noneM hq))⟩
    unfold rgV
    rw [Int.sub_zero]
    exact rel_rng 0 _
  · exact h1.elim⟩
end
section
variable {M : Mp} {Q : QD}
theorem go_inv {i : Int} (q : Q (.int (Builtin.bitNot i)) M) : fInv (.int i) M Q := q
theorem go_bits {i : Int} (q : Q (.int (Builtin.Int.intBits i : Nat)) M) : fBits (.int i) M Q := q
theorem go_listRgM {n : Int} (h1 : n ≤ 1000000) (h2 : -1000000 ≤ n) (q : ∀ p, M p = none → Q (.ref p) (mupd M p (.lst (rng 0 n.toNat)))) : fListRgM (.int n) M Q := ⟨h1, h2, q⟩
end
end DL

set_option Elab.async false
set_option linter.all false
set_option maxRecDepth 100000
/-! DX6: a dict that still changes is locked ahead of a statement, so that it can be walked. -/
namespace DL
open PySem PySem.Spec PyProof.Rows L2
def tLock (j : Nat) (t : TS) : TS := fun B σ H => ∃ d u, σ[j]? = some (some (V.ref d)) ∧ H d = some u ∧ Mut (some u) ∧ ∀ od, t B σ (upd H d (.frz od u))
def aLock (j : Nat) (t : aS) : aS := fun A G M => ∃ p gs, G[j]? = some (some (.ref p)) ∧ M p = some (.dK gs) ∧ A.m0 p = none ∧ t A (G.set j (some (.dK gs))) (mdel M p)
section
variable {X : Cx} {K : PySem.W.Frag} {s : Stmt} {t : TS} {a : aS} {j : Nat}
theorem ps_lock (h : PS X s t) : PS X s (tLock j t) := by
  refine ⟨fun pins s σ H D I hw => ?_⟩
  obtain ⟨d, u, _, hd, mu, q⟩ := hw
  obtain ⟨od, I2⟩ := I.lock hd mu
  exact h.run pins s σ _ D I2 (q od)
theorem CC.drop {E : En} {G : Gm} {M : Mp} {N H : Hp} {σ : L2.St} {p : Addr} (c : CC K E G M N σ H) : CC K E G (mdel M p) N σ H where
  fr := ⟨c.fr.nn, fun b u e m => by
    obtain ⟨h1, h2⟩ := c.fr.keep b u e m
    refine ⟨h1, ?_⟩
    unfold mdel
    split
    · rfl
    · exact h2, c.fr.new, c.fr.dom⟩
  cm := ⟨c.cm.sm, fun b x e => by
    unfold mdel at e
    split at e
    · cases e
    · exact c.cm.hm b x e⟩
  sl := c.sl
theorem ss_lock (h : SS K t a) : SS K (tLock j t) (aLock j a) := by
  intro E G M N σ H C A B m0 q k
  obtain ⟨p, gs, hg, hM, hm0, q⟩ := q
  obtain ⟨hN, kvs, hH, r⟩ := C.cm.hm p _ hM
  have h0 : E.H p = none := by
    cases w : E.H p with
    | none => rfl
    | some o =>
      obtain ⟨_, z⟩ := C.fr.keep p o w (by rw [← m0]; exact hm0)
      rw [z] at hM
      cases hM
  obtain ⟨v, hv, rv⟩ := C.sl.2 j _ hg
  have ev := rel_ref rv
  subst ev
  refine ⟨p, .dK kvs, hv, hH, trivial, fun od => ?_⟩
  have C2 := (C.drop (p := p)).frz (o := .frz od (.dK kvs)) (by unfold mdel; rw [if_pos rfl]) hN h0
  have sn : Same N (upd N p (.frz od (.dK kvs))) := same_new hN
  refine h E _ _ _ σ _ (C2.slots ⟨?_, fun i d e => ?_⟩) A B m0 q (k.from sn)
  · rw [List.length_set]
    exact C.sl.1
  · by_cases z : j = i
    · subst z
      rw [List.getElem?_set_self (List.getElem?_eq_some_iff.mp hg).1] at e
      cases e
      exact ⟨_, hv, .dK upd_same (r.mono sn)⟩
    · rw [List.getElem?_set_ne z] at e
      exact C2.sl.2 i d e
theorem ds_lock (h : DS X s t a) : DS X s (tLock j t) (aLock j a) := ⟨ps_lock h.ps, ss_lock h.ss⟩
end
theorem go_lock {j : Nat} {t : aS} {A : aEnds} {G : Gm} {M : Mp} {p : Addr} {gs : List (Key × D)} (h : G[j]? = some (some (.ref p))) (h1 : M p = some (.dK gs)) (h2 : A.m0 p = none) (q : t A (G.set j (some (.dK gs))) (mdel M p)) : aLock j t A G M := ⟨p, gs, h, h1, h2, q⟩
end DL

set_option Elab.async false
set_option linter.all false
set_option maxRecDepth 100000
/-! DX7: == of two instances of a class with an own __eq__. -/
namespace DL
open PySem PySem.Spec PyProof.Rows L2
def rOwn (C : Addr) (S : Sp) (E : XK) : R2 := fun x y H Q => ∃ a b dx dy fs gs, x = V.ref a ∧ y = V.ref b ∧ H a = some (.ins C dx fs) ∧ H b = some (.ins C dy gs) ∧ S [.ref a, .ref b] H (fun v H' => (∃ k, v = V.bl k) ∧ Q v H') E
theorem op_own {X : Cx} {CX : CXT} {C f : Addr} {fd : FuncData} {ps : List Str} {n : Nat} {S : Sp} {E : XK} (hm : Meth X.K C "__eq__" f) (F : FnOk X.prog X.w X.K X.mg X.base CX n f fd ps S) (hr : Room n X.A)
    (hb : Binds X.K fd ps []) (hx : Passes CX X E) : OpR X (compareOp .Eq) (rOwn C S E) := by
  intro pins s σ H x y v u Q I rx ry hq
  obtain ⟨a, b, dx, dy, fs, gs, rfl, rfl, ha, hb', hsp⟩ := hq
  cases rx
  cases ry
  show wpAny (model X.prog X.w) X.A (richCompare .Eq (.ref a) (.ref b)) (EP X pins σ Q) X.xe s
  obtain ⟨mA, J, _⟩ := ins_get I.hok ha
  obtain ⟨mB, J', _⟩ := ins_get I.hok hb'
  obtain ⟨od, J, _⟩ := J.look
  obtain ⟨od', J', _⟩ := J'.look
  obtain ⟨m, hF⟩ := I.fr
  refine PySem.W.cmp_K (op := .Eq) (tb := .ref C) hr.units0 hF I.ok.mod.kin J J'.type (by simp [PySem.W.notFirst]) hm.at_ hm.fn ?_
  have r2 : Vals [V.ref a, V.ref b] [Value.ref a, Value.ref b] := .cons rfl (.cons rfl .nil)
  refine thn (run_fn (us := [.ref a, .ref b]) (vs := [.ref a, .ref b]) (ds := []) (dvs := []) F hr hb .nil hx I r2 (by rw [List.append_nil]; exact hsp)) fun r s' z => ?_
  obtain ⟨x, H', I', rz, ⟨k, rfl⟩, q⟩ := z
  cases rz
  exact ⟨.bl k, H', I', rfl, q⟩
def fOwn (C : Addr) (n : Nat) (sp : aSp) : V2 := fun d e M Q => ∃ fs gs, d = .obj C fs ∧ e = .obj C gs ∧ n = 2 ∧ sp [d, e] M (fun r M' => ∃ k, r = .bl k ∧ Q r M')
theorem s2_own {K : PySem.W.Frag} {C : Addr} {n : Nat} {sp : aSp} {E0 : XK} : S2 K (rOwn C (lift K n sp) E0) (fOwn C n sp) := by
  intro E G M N σ H C1 x y d e rx ry Q Qc h k
  obtain ⟨fs, gs, rfl, rfl, rfl, h⟩ := h
  cases rx with
  | obj h1 r1 =>
    cases ry with
    | obj h2 r2 =>
      refine ⟨_, _, _, _, _, _, rfl, rfl, C1.cm.sm _ _ h1, C1.cm.sm _ _ h2, _, M, N, _, rfl, C1.cm, .cons (.obj h1 r1) (.cons (.obj h2 r2) .nil), h, fun d v M' N' H' q' fr cm r => ?_⟩
      obtain ⟨kk, rfl, q'⟩ := q'
      cases r
      exact ⟨⟨kk, rfl⟩, k _ _ M' N' H' q' (C1.step fr cm) fr.nn (.bl _)⟩
theorem go_own {C : Addr} {n : Nat} {sp : aSp} {fs gs : List (Str × D)} {M : Mp} {Q : QD} (hn : n = 2) (q : sp [.obj C fs, .obj C gs] M (fun r M' => ∃ k, r = .bl k ∧ Q r M')) : fOwn C n sp (.obj C fs) (.obj C gs) M Q := ⟨_, _, rfl, rfl, hn, q⟩
/-- an ordinary class of the program, asked by isinstance -/
structure ObC (K : PySem.W.Frag) (C : Addr) : Prop where
  cl : Cls K C
  ha : PySem.W.findIn K (.ref C) "__class__" = some (some (.builtin "object.__class__"))
  hn : PySem.W.specialIn K (.builtin "object.__class__") "__get__" = some (some (.builtin "getset_descriptor.__get__"))
  htk : PySem.W.takesIn K (.builtin "object.__class__") = some true
  hm : PySem.W.mroIn K C (.type "object") = some true
/-- isinstance(x, C), C a class of the program, x of just this class -/
def fIsiC (K : PySem.W.Frag) : VL := fun ds M Q => ∃ C fs, ds = [.obj C fs, .ref C] ∧ ObC K C ∧ Q (.bl true) M
theorem sl_isiC {K : PySem.W.Frag} : SL K (rIsi K) (fIsiC K) := by
  intro E G M N σ H C1 xs ds rx Q Qc h k
  obtain ⟨C, fs, rfl, ob, h⟩ := h
  obtain ⟨v, w, rfl, r, r2⟩ := rel2 rx
  have e := rel_ref r2
  subst e
  cases r with
  | obj h1 r1 =>
    refine ⟨_, .ref C, .ref C, .ref C, true, rfl, .own C, .base (.ins (C1.cm.sm _ _ h1) ob.cl ob.ha ob.hn ob.htk ob.hm), ?_, k.at C1 h (.bl _)⟩
    unfold PySem.W.kitOne
    rw [if_pos (by simp)]
theorem de_globC {X : Cx} {x : Str} {C : Addr} {pos : Pos} (hg : Gl X x) (hm : X.mg x = some (.ref C)) (hd : (x == ("__debug__" : Str)) = false := by decide) : DE X (.Name x pos) (tC (.ref C)) (aC (.ref C)) := de_glob hg hm rfl (fun _ => .ref C) hd
theorem go_isiO {K : PySem.W.Frag} {C : Addr} {fs : List (Str × D)} {M : Mp} {Q : QD} (ob : ObC K C) (q : Q (.bl true) M) : fIsiC K [.obj C fs, .ref C] M Q := ⟨C, fs, rfl, ob, q⟩
end DL

set_option Elab.async false
set_option linter.all false
set_option maxRecDepth 100000
/-! DX8: len(o), repr(o) by own methods. -/
namespace DL
open PySem PySem.Spec PyProof.Rows L2
section
variable {X : Cx} {CX : CXT} {C f : Addr} {fd : FuncData} {ps : List Str} {n : Nat} {S : Sp} {E : XK}
/-- a call a little deeper -/
theorem run_fnA {A' : Around} {pins : List (Addr × Obj)} {σ : L2.St} {H : Hp} {s : Shared} {Q : VK} {us : List Value} {vs : List V} (F : FnOk X.prog X.w X.K X.mg X.base CX n f fd ps S) (hr : Room n A') (hfr : A'.frames = X.A.frames) (hb : Binds X.K fd ps []) (hx : Passes CX X E)
    (I : Inv X pins σ H s) (r : Vals vs us) (h : S vs H Q E) : wpAny (model X.prog X.w) A' (call (.ref f) us) (EP X pins σ Q) X.xe s := by
  have e0 : Env0 X.prog X.w X.K X.mg X.base A' X.stack s H := by
    have e := I.env0
    exact ⟨by rw [hfr]; exact e.frames, e.mod, e.bs, e.bsz, e.funs, e.frf, e.hok, e.bare⟩
  have hl := F.len _ _ _ _ h
  refine wpAny_call (codeAny_mono (F.run A' X.stack s H ⟨us, []⟩ us vs Q E hr e0 (by
    have := hb s us I.kIn (by rw [List.append_nil, ← r.length]; exact hl)
    simpa using this) r h) fun r s' hq => ?_)
  cases r with
  | error e => exact hx pins σ H s e s' I hq
  | ok fl =>
    cases fl with
    | ret u => exact I.after hq
    | next => exact False.elim hq
    | brk => exact False.elim hq
    | cont => exact False.elim hq
def rLenO (C : Addr) (S : Sp) (E : XK) : List V → Hp → VK → Prop := fun xs H Q => ∃ a dx fs, xs = [V.ref a] ∧ H a = some (.ins C dx fs) ∧ S [.ref a] H (fun v H' => (∃ k : Nat, v = V.int k ∧ k < 2 ^ 63) ∧ Q v H') E
theorem call_lenO (hm : Meth X.K C "__len__" f) (F : FnOk X.prog X.w X.K X.mg X.base CX n f fd ps S) (hr : Room (n + 1) X.A) (hb : Binds X.K fd ps []) (hx : Passes CX X E) : CallR X (.builtin "len") (rLenO C S E) := by
  intro pins s σ H xs us Q I r h
  obtain ⟨a, dx, fs, rfl, ha, h⟩ := h
  obtain ⟨u, rfl, ru⟩ : ∃ u, us = [u] ∧ RelV (V.ref a) u := by
    cases r with
    | cons r1 r2 => cases r2; exact ⟨_, rfl, r1⟩
  obtain rfl : u = Value.ref a := ru
  obtain ⟨mA, J, _⟩ := ins_get I.hok ha
  obtain ⟨od, J, _⟩ := J.look
  obtain ⟨m, hF⟩ := I.fr
  refine PySem.W.len_K hF I.ok.mod.kin J hm.at_ hm.fn (thn (run_fnA F hr.in1 rfl hb hx I (us := [.ref a]) (vs := [.ref a]) (.cons rfl .nil) h) fun v s' z => ?_)
  obtain ⟨x, H', I', rz, ⟨k, rfl, hk⟩, q⟩ := z
  obtain ⟨t, rfl⟩ := (show ∃ t, v = Value.int k t from rz)
  refine ⟨⟨by omega, by exact_mod_cast hk⟩, .int k, H', I'.tok _, ⟨_, rfl⟩, q⟩
def fLenO (C : Addr) (n : Nat) (sp : aSp) : VL := fun ds M Q => ∃ fs, ds = [.obj C fs] ∧ n = 1 ∧ sp ds M (fun r M' => ∃ k : Nat, r = .int k ∧ k < 2 ^ 63 ∧ Q r M')
theorem sl_lenO {K : PySem.W.Frag} {sp : aSp} : SL K (rLenO C (lift K n sp) E) (fLenO C n sp) := by
  intro E0 G M N σ H C1 xs ds rx Q Qc h k
  obtain ⟨fs, rfl, rfl, h⟩ := h
  cases rx with
  | cons r1 r2 =>
    cases r2
    cases r1 with
    | obj h1 hf =>
      refine ⟨_, _, _, rfl, C1.cm.sm _ _ h1, _, M, N, _, rfl, C1.cm, .cons (.obj h1 hf) .nil, h, fun d v M' N' H' q' fr cm r => ?_⟩
      obtain ⟨kk, rfl, hk, q'⟩ := q'
      cases r
      exact ⟨⟨kk, rfl, hk⟩, k _ _ M' N' H' q' (C1.step fr cm) fr.nn (.int _)⟩
/-! repr(o) -/
def rReprO (C : Addr) (S : Sp) (E : XK) : List V → Hp → VK → Prop := fun xs H Q => ∃ a dx fs, xs = [V.ref a] ∧ H a = some (.ins C dx fs) ∧ S [.ref a] H (fun v H' => (∃ z, v = V.str z) ∧ Q v H') E
theorem call_reprO (hm : Meth X.K C "__repr__" f) (F : FnOk X.prog X.w X.K X.mg X.base CX n f fd ps S) (hr : Room (n + 1) X.A) (hb : Binds X.K fd ps []) (hx : Passes CX X E) : CallR X (.builtin "repr") (rReprO C S E) := by
  intro pins s σ H xs us Q I r h
  obtain ⟨a, dx, fs, rfl, ha, h⟩ := h
  obtain ⟨u, rfl, ru⟩ : ∃ u, us = [u] ∧ RelV (V.ref a) u := by
    cases r with
    | cons r1 r2 => cases r2; exact ⟨_, rfl, r1⟩
  obtain rfl : u = Value.ref a := ru
  obtain ⟨mA, J, _⟩ := ins_get I.hok ha
  obtain ⟨od, J, _⟩ := J.look
  obtain ⟨m, hF⟩ := I.fr
  refine PySem.W.repr_K hr.in1.units0 hF I.ok.mod.kin J hm.at_ hm.fn (thn (run_fnA F hr.in1 rfl hb hx I (us := [.ref a]) (vs := [.ref a]) (.cons rfl .nil) h) fun v s' z => ?_)
  obtain ⟨x, H', I', rz, ⟨k, rfl⟩, q⟩ := z
  obtain ⟨t, rfl⟩ := (show ∃ t, v = Value.str k t from rz)
  exact ⟨.str k, H', I', ⟨_, rfl⟩, q⟩
def fReprO (C : Addr) (n : Nat) (sp : aSp) : VL := fun ds M Q => ∃ fs, ds = [.obj C fs] ∧ n = 1 ∧ sp ds M (fun r M' => ∃ z, r = .str z ∧ Q r M')
theorem sl_reprO {K : PySem.W.Frag} {sp : aSp} : SL K (rReprO C (lift K n sp) E) (fReprO C n sp) := by
  intro E0 G M N σ H C1 xs ds rx Q Qc h k
  obtain ⟨fs, rfl, rfl, h⟩ := h
  cases rx with
  | cons r1 r2 =>
    cases r2
    cases r1 with
    | obj h1 hf =>
      refine ⟨_, _, _, rfl, C1.cm.sm _ _ h1, _, M, N, _, rfl, C1.cm, .cons (.obj h1 hf) .nil, h, fun d v M' N' H' q' fr cm r => ?_⟩
      obtain ⟨kk, rfl, q'⟩ := q'
      cases r
      exact ⟨⟨kk, rfl⟩, k _ _ M' N' H' q' (C1.step fr cm) fr.nn (.str _)⟩
/-! o[i] -/
def rIxO (C : Addr) (S : Sp) (E : XK) : R2 := fun x y H Q => ∃ a dx fs, x = V.ref a ∧ H a = some (.ins C dx fs) ∧ S [.ref a, y] H Q E
def OwnIx (b : Expr) : Prop := ∀ o i, subscripted b true o i = runValue (.builtin "lifetime.subscript" ⟨[o, i], []⟩)
theorem pe_ixO {a b : Expr} {ta tb : TE} {pos : Pos} (hm : Meth X.K C "__getitem__" f) (hfi : PySem.W.fnIn X.K f = true) (F : FnOk X.prog X.w X.K X.mg X.base CX n f fd ps S) (hr : Room (n + 1) X.A) (hb : Binds X.K fd ps []) (hx : Passes CX X E) (hpa : PE X a ta) (hpb : PE X b tb) (hs : OwnIx b) : PE X (.Subscript a b pos) (tOp (rIxO C S E) ta tb) := by
  refine ⟨fun pins s σ H Q I h => ?_⟩
  refine Subscript_ (binT hpa hpb I h fun v u s2 x y H2 I2 rx ry q => ?_)
  obtain ⟨a', dx, fs, rfl, ha, h⟩ := q
  obtain rfl : v = Value.ref a' := rx
  obtain ⟨mA, J, _⟩ := ins_get I2.hok ha
  obtain ⟨od, J, _⟩ := J.look
  obtain ⟨m, hF⟩ := I2.fr
  exact PySem.W.sub_K hF I2.ok.mod.kin J hm.at_ hfi hm.fn (run_fnA F hr.in1 rfl hb hx I2 (us := [.ref a', u]) (vs := [.ref a', y]) (.cons rfl (.cons ry .nil)) h) (hs _ _)
def fIxO (C : Addr) (n : Nat) (sp : aSp) : V2 := fun d e M Q => ∃ fs, d = .obj C fs ∧ n = 2 ∧ sp [d, e] M Q
theorem s2_ixO {K : PySem.W.Frag} {sp : aSp} : S2 K (rIxO C (lift K n sp) E) (fIxO C n sp) := by
  intro E0 G M N σ H C1 x y d e rx ry Q Qc h k
  obtain ⟨fs, rfl, rfl, h⟩ := h
  cases rx with
  | obj h1 r1 => exact ⟨_, _, _, rfl, C1.cm.sm _ _ h1, _, M, N, Q, rfl, C1.cm, .cons (.obj h1 r1) (.cons ry .nil), h, fun d v M' N' H' q' fr cm r => k d v M' N' H' q' (C1.step fr cm) fr.nn r⟩
end
end DL

set_option Elab.async false
set_option linter.all false
set_option maxRecDepth 100000
set_option maxHeartbeats 1000000
/-! DX10: sorted(xs, key=lambda k: d['names'][k]). -/
namespace DL
open PySem PySem.Spec PyProof.Rows L2
theorem mupd_self {M : Mp} {a : Addr} {c : MC} (h : M a = some c) : mupd M a c = M := by
  funext b
  unfold mupd
  split
  · rename_i e; subst e; exact h.symm
  · rfl
section
variable {X : Cx} {pins : List (Addr × Obj)} {σ : L2.St} {H : Hp} {s : Shared}
/-- the call of such a lambda: all that was there stays -/
theorem lam_turn {A : Around} {f c' cn dn ln : Addr} {q : Str} {params : Arguments} {scope : Scope} {cl : List (Str × Addr)} {pm ctv : Value} {kk : Nat} {p1 p2 p3 p4 p5 : Pos} {i : Int} {t : Tok} {z : Str} {kvs : List (Key × V)} {xs : List V}
    (I : Inv X pins σ H s) (hroom : A.depth < recursionLimit) (lim : s.heap.NoLimit)
    (hf : s.heap.get? f = some (PySem.W.kla_obj "<lambda>" q params (.Subscript (.Subscript (.Name "net" p1) (.Constant (.str "names") kk p2) p3) (.Name "k" p4) p5) scope cl pm c' ctv))
    (hrec : ∃ (oc : Obj) (vs : Array Value) (t : Tok), s.heap.get? c' = some oc ∧ oc.data = .fields vs ∧ vs[1]? = some (.str q t))
    (hco : scope.isCoroutine = false) (hgen : scope.isGenerator = false) (hkind : scope.kind = .function) (hnet : scope.names.lookup ("net" : Str) = some .free) (hk : scope.names.lookup ("k" : Str) = some .local) (nocell : ∀ y ∈ scope.names, y.2 ≠ .cell)
    (hbind : bindArgs (PySem.W.kla_fn "<lambda>" q params (.Subscript (.Subscript (.Name "net" p1) (.Constant (.str "names") kk p2) p3) (.Name "k" p4) p5) scope cl pm (.ref c') ctv) ⟨[.int i t], []⟩ = pure [(("k" : Str), .int i t)])
    (hcl : cl.lookup ("net" : Str) = some cn) (hcell : s.heap.IsCell cn (some (.ref dn))) (hd : Rd H dn (.dK kvs)) (hn : valV kvs (Sum.inr ("names" : Str)) = some (.ref ln)) (hl : SqL X.K H ln xs) (i0 : 0 ≤ i) (i1 : i < 2 ^ 63) (hx : xs[i.toNat]? = some (.str z)) :
    wpAny (model X.prog X.w) A (call (.ref f) [.int i t]) (PySem.W.KeyPure (.str z) s) (fun _ _ => False) s := by
  refine wpAny_call (PySem.W.kla_callFunE hroom hf rfl hco hgen rfl (by obtain ⟨oc, vs, t, e1, e2, e3⟩ := hrec; exact ⟨c', oc, vs, t, rfl, e1, e2, e3⟩) ?_)
  rw [hbind]
  refine wpAny_pure (wpAny_newFunctionEnv nocell (fun y hy => by rcases List.mem_singleton.mp hy with rfl; exact hk) (fun h₁ hns hsb => ⟨lim.fresh _ hsb, ?_⟩) hkind)
  have kp : ∀ b o, s.heap.get? b = some o → h₁.get? b = some o := fun b o e => hsb.extBut b o (Nat.ne_of_lt (Heap.lt_size e)) (Heap.get?_push_of_some _ e)
  have J : Inv X pins σ H { s with heap := h₁, toks := s.toks + 1 } := I.kept kp
  refine PySem.W.kla_codeExpr ?_
  refine Subscript_ (Subscript_ (wpAny_Name (wpAny_loadName_free (env := newEnv scope s.heap.objs.size mainGlobals cl (q ++ ".<locals>.") (some f) (.ref c') none builtinsNs) (c := cn) (v := .ref dn) hkind hnet hcl ?_ ?_)))
  · obtain ⟨o, e1, e2⟩ := hcell
    exact ⟨o, kp _ _ e1, e2⟩
  refine Calls.Constant_str ?_
  obtain ⟨_, _, vs, rel, dd⟩ := dk_rd (J.tok (s.toks + 1 + 1)).hok hd
  obtain ⟨w', hw, rw'⟩ := RelO.some_of (v := .ref ln) (o := valueAt vs (Sum.inr ("names" : Str))) (by rw [← hn]; exact rel.val _)
  obtain rfl : w' = Value.ref ln := rw'
  refine tail_any (dd.typeIs) PySem.F.slot_dict_getitem.lookup (wpAny_getItem_of (kV_is (k := .inr "names") ⟨_, rfl⟩) dd.mapOf hw ?_) rfl
  refine wpAny_Name (wpAny_loadName_local hkind hk hns (v := .int i t) rfl ?_)
  obtain ⟨its, r, pl, hz⟩ := J.list hl
  obtain ⟨u, hu, ru⟩ := r.get hx
  obtain ⟨tu, rfl⟩ := (show ∃ t, u = Value.str z t from ru)
  refine item_listR pl.isList i0 i1 (by simpa using hu) ?_ (by rfl)
  exact ⟨h₁, _, rfl, kp, .str _ _⟩
/-- what the making of a lambda may do to what is tracked -/
def TabStep (H1 : Hp) (P : Addr) (q : Str) (H2 : Hp) : Prop := H2 = H1 ∨ ∃ (c' : Addr) (ps ps' : Array Value), H1 c' = none ∧ H1 P = some (.tbl ps) ∧ TriplesOk ps'.toList ∧
  (∀ (pos : Pos) (cv : Value), codeAmong pos ps'.toList = some cv → codeAmong pos ps.toList = some cv ∨ cv = .ref c') ∧ H2 = upd (upd H1 P (.tbl ps')) c' (LamX.CodeO c' q)
/-- the table stands at P -/
def TabAt (H : Hp) (P : Addr) (q : Str) : Prop := ∃ ps : Array Value, H P = some (.tbl ps) ∧ TriplesOk ps.toList ∧ ∀ (pos : Pos) (cv : Value), codeAmong pos ps.toList = some cv → ∃ c, cv = .ref c ∧ H c = some (LamX.CodeO c q)
theorem lam_mk {c P : Addr} {params : Arguments} {body : Expr} {scope : Scope} {pos : Pos} {Ex : Value → Shared → Prop} {Q : Value → Shared → Prop} (I : Inv X pins σ H s) (T : TabAt H P (X.env.qual ++ "<lambda>")) (TB : LamX.TabB X.base X.mg c P) (hcode : X.env.code = .ref c)
    (hdef : defaultsOf params X.env = ([], [])) (hfree : ∀ y ∈ scope.names, y.2 = .free → ∃ c, X.env.cells.lookup y.1 = some c)
    (h : ∀ (f c' : Addr) (pm ctv : Value) (H2 : Hp) (s' : Shared), TabStep H P (X.env.qual ++ "<lambda>") H2 → Inv X pins σ H2 s' → (∀ b u, H b = some u → (∀ z, u ≠ .tbl z) → H2 b = some u) →
      s'.heap.get? f = some (PySem.W.kla_obj "<lambda>" (X.env.qual ++ "<lambda>") params body scope (cloFrom X.env.cells scope.names []) pm c' ctv) → H2 c' = some (LamX.CodeO c' (X.env.qual ++ "<lambda>")) → Q (.ref f) s') :
    wpAny (model X.prog X.w) X.A (eval (.Lambda params body scope pos) X.env) Q Ex s := by
  obtain ⟨ps, tP, tOk, tAll⟩ := T
  have cl0 : closureFor scope X.env = pure (cloFrom X.env.cells scope.names []) := closure_ok hfree
  have bAt : s.heap.BuiltinsAt X.mg P := TB.bm.keeps I.bk
  have obj : s.heap.get? P = some (PySem.W.tabObj ps) := I.hok P _ tP
  refine PySem.W.kla_eval hdef ?_
  by_cases e : codeAmong pos ps.toList = none
  · refine PySem.W.kla_makeFunction (mg := X.mg) cl0 I.ok.glob (I.mod.glob.keeps I.bk) hcode (TB.code.keeps I.bk) obj tOk e TB.gP bAt fun c2 ctv h2 tk k0 k1 k2 k3 k4 => ?_
    obtain ⟨c3, oc, ov, tq, z1, z2, z3, z4⟩ := k3
    cases z1
    have fresh : H c2 = none := I.hok.fresh k1
    have nPc : P ≠ c2 := ne_of_none tP fresh
    have J := LamX.inv_table (t' := tk) (more := #[rawInt pos.line, rawInt pos.col, .ref c2]) (h' := h2.push (PySem.W.kla_obj "<lambda>" (X.env.qual ++ "<lambda>") params body scope (cloFrom X.env.cells scope.names []) ((X.mg "__name__").getD .none) c2 ctv)) I tP
      (fun b o nb q => Heap.get?_push_of_some _ (k0 b o nb q)) (Heap.get?_push_of_some _ k4) k1 ⟨oc, ov, tq, Heap.get?_push_of_some _ z2, z3, z4⟩
    have eL : (ps ++ #[rawInt pos.line, rawInt pos.col, .ref c2]).toList = ps.toList ++ [rawInt pos.line, rawInt pos.col, .ref c2] := by simp
    refine h _ c2 _ ctv _ _ (.inr ⟨c2, ps, _, fresh, tP, by rw [eL]; exact PySem.TriplesOk_snoc _ _ _ _ tOk, fun p cv q => ?_, rfl⟩) J (fun b u q n => ?_) (Heap.get?_push_size _ rfl) upd_same
    · rw [eL] at q
      exact LamX.among_app _ tOk q
    · have b1 : b ≠ c2 := ne_of_none q fresh
      have b2 : b ≠ P := fun z => by subst z; rw [tP] at q; cases q; exact n _ rfl
      rw [upd_ne b1, upd_ne b2]
      exact q
  · obtain ⟨cv, e⟩ := Option.ne_none_iff_exists'.mp e
    obtain ⟨d, rfl, hd⟩ := tAll pos cv e
    refine PySem.W.kla_makeFunctionHit (mg := X.mg) cl0 I.ok.glob (I.mod.glob.keeps I.bk) hcode (TB.code.keeps I.bk) obj tOk e bAt fun ctv h2 tk k0 k1 => ?_
    exact h _ d _ ctv H _ (.inl rfl) (I.kept fun b o q => Heap.get?_push_of_some _ (k0 b o q)) (fun b u q _ => q) (Heap.get?_push_size _ rfl) hd
end
/-! ### sorted(xs, key=lambda k: d['names'][k]) -/
def wSortL (K : PySem.W.Frag) (j : Nat) (P : Addr) (q : Str) (σ : L2.St) (Q : VK) (x : V) (H1 : Hp) : Prop := ∃ (l dn ln : Addr) (ns : List Int) (kvs : List (Key × V)) (zs : List Str), x = .ref l ∧ SqL K H1 l (ns.map V.int) ∧ ns.length ≤ 1000 ∧ σ[j]? = some (some (.ref dn)) ∧ Rd H1 dn (.dK kvs) ∧
  valV kvs (Sum.inr ("names" : Str)) = some (.ref ln) ∧ SqL K H1 ln (zs.map V.str) ∧ (∀ n ∈ ns, 0 ≤ n ∧ n < (zs.length : Int)) ∧ zs.length ≤ 1000 ∧ TabAt H1 P q ∧
  ∀ (out : List Int) (H2 : Hp) (p : Addr), out.Perm ns → TabStep H1 P q H2 → H2 p = none → Q (.ref p) (upd H2 p (.lst (out.map V.int)))
def tSortL (K : PySem.W.Frag) (j : Nat) (P : Addr) (q : Str) (ta : TE) : TE := fun σ H Q => ta σ H fun x H1 => wSortL K j P q σ Q x H1
def aSortL (j : Nat) (P : Addr) (q : Str) (aa : aE) : aE := fun G M Q => aa G M fun d M1 => ∃ (ns : List Int) (dn : D) (zs : List Str), isLM d = true ∧ itemsM M1 d = some (ns.map .int) ∧ ns.length ≤ 1000 ∧ G[j]? = some (some dn) ∧ getDk M1 dn (.str "names") = some (some (.list (zs.map .str))) ∧
  (∀ n ∈ ns, 0 ≤ n ∧ n < (zs.length : Int)) ∧ zs.length ≤ 1000 ∧ M1 P = some (.tab q) ∧ ∀ out : List Int, out.Perm ns → Q (.list (out.map .int)) M1
theorem upd_comm {H : Hp} {a b : Addr} {o u : HO} (h : a ≠ b) : upd (upd H a o) b u = upd (upd H b u) a o := by
  funext c
  unfold upd
  by_cases e : c = a
  · subst e; simp [h]
  · by_cases e2 : c = b
    · subst e2; simp [e]
    · simp [e, e2]
theorem same_tab {H1 H2 : Hp} {P : Addr} {q : Str} (st : TabStep H1 P q H2) (hP : ∃ ps, H1 P = some (.tbl ps)) : ∀ b u, H1 b = some u → (∀ z, u ≠ .tbl z) → H2 b = some u := by
  rcases st with rfl | ⟨c', _, ps', h1, _, _, _, rfl⟩
  · exact fun _ _ e _ => e
  · obtain ⟨ps, hP⟩ := hP
    intro b u e n
    rw [upd_ne (ne_of_none e h1), upd_ne (fun z => by subst z; rw [hP] at e; cases e; exact n _ rfl)]
    exact e
section
variable {X : Cx}
theorem each_ints : ∀ {ns : List Int} {its : List Value}, Vals (ns.map V.int) its → PySem.W.EachIs (fun (v : Value) (n : Int) => ∃ t, v = Value.int n t) its ns
  | [], _, r => by cases r; exact .nil
  | n :: ns, _, r => by
    cases r with
    | cons h r => exact .cons h (each_ints r)
theorem vals_eachI : ∀ {ns : List Int} {its : List Value}, PySem.W.EachIs (fun (v : Value) (n : Int) => ∃ t, v = Value.int n t) its ns → Vals (ns.map V.int) its
  | _, _, .nil => .nil
  | _, _, .cons h r => .cons h (vals_eachI r)
theorem ta_cons1 {ta : TE} {σ : L2.St} {H : Hp} {Q : List V → Hp → Prop} (h : ta σ H fun x H1 => Q [x] H1) : tCons ta tNil σ H Q := h
theorem pe_sortL {e : Expr} {ta : TE} {j : Nat} {c P : Addr} {p lp kp pos p1 p2 p3 p4 p5 : Pos} {kk : Nat} {params : Arguments} {scope : Scope} (ha : PE X e ta) (hg : Gl X "sorted") (hm : X.mg "sorted" = none) (TB : LamX.TabB X.base X.mg c P) (hcode : X.env.code = .ref c) (hN : X.N[j]? = some ("net" : Str)) (hnc : X.env.scope.names.lookup ("net" : Str) = some .cell) (hr : Room 3 X.A)
    (hdef : defaultsOf params X.env = ([], [])) (hco : scope.isCoroutine = false) (hgen : scope.isGenerator = false) (hkind : scope.kind = .function) (hnames : scope.names = [(("net" : Str), .free), (("k" : Str), .local)] ∨ scope.names = [(("k" : Str), .local), (("net" : Str), .free)])
    (hbind : ∀ (q : Str) (cl : List (Str × Addr)) (pm cv ctv : Value) (i : Int) (t : Tok), bindArgs (PySem.W.kla_fn "<lambda>" q params (.Subscript (.Subscript (.Name "net" p1) (.Constant (.str "names") kk p2) p3) (.Name "k" p4) p5) scope cl pm cv ctv) ⟨[.int i t], []⟩ = pure [(("k" : Str), .int i t)])
    (hs0 : starEach [e] X.env = (false, eval e X.env) :: starEach [] X.env := by rfl) (he : backTo pos (starEach [e] X.env) = (false, eval e X.env) :: backTo pos (starEach [] X.env) := by rfl) (hpl : (backTo pos (starEach [e] X.env)).any (·.1) = false := by rfl) :
    PE X (.Call (.Name "sorted" p) [e] [⟨some "key", .Lambda params (.Subscript (.Subscript (.Name "net" p1) (.Constant (.str "names") kk p2) p3) (.Name "k" p4) p5) scope lp, kp⟩] pos) (tSortL X.K j P (X.env.qual ++ "<lambda>") ta) := by
  refine ⟨fun pins s σ H Q I h => ?_⟩
  have pa : PA X [e] (tCons ta tNil) := pa_cons ha pa_nil hs0
  refine wpAny_Call_Name_kw (ld_blt I hg hm (u := .builtin "sorted") (by decide +kernel) ?_ (by decide) (by decide))
  refine PyProof.Rows.callWith_kw (thn (pa.run pos pins s σ H (fun vs H1 => match vs with | [x] => wSortL X.K j P (X.env.qual ++ "<lambda>") σ Q x H1 | _ => False) I (ta_cons1 h)) fun us s1 ⟨vs, H1, I1, r1, q1⟩ => ?_) he hpl rfl rfl
  dsimp only at q1
  split at q1
  case h_2 => exact q1.elim
  obtain ⟨l, dn, ln, ns, kvs, zs, rfl, hl, hnl, hσ, hd, hn, hz, hin, hzl, T, q⟩ := q1
  obtain rfl := Vals.ref1 r1
  have hfree : ∀ y ∈ scope.names, y.2 = .free → ∃ c, X.env.cells.lookup y.1 = some c := fun y hy e => by
    have : y = (("net" : Str), NameKind.free) := by
      rcases hnames with h | h <;> rw [h] at hy <;> simp at hy <;> rcases hy with rfl | rfl <;> first | rfl | cases e
    subst this
    exact I1.ok.has _ (.inl hnc)
  show wpAny _ _ (evalAll ((do let v ← eval (.Lambda params (.Subscript (.Subscript (.Name "net" p1) (.Constant (.str "names") kk p2) p3) (.Name "k" p4) p5) scope lp) X.env; standAt pos; pure v) :: [])) _ _ _
  refine wpAny_evalAll_cons (wpAny_bind (lam_mk I1 T TB hcode hdef hfree fun f c' pm ctv H2 s2 st I2 sm hf hcd => wpAny_bind (wpAny_standAt (wpAny_pure (wpAny_evalAll_nil ?_)))))
  show wpAny _ _ (call (.builtin "sorted") [.ref l] [(Str.ofString "key", .ref f)]) _ _ _
  have up : ∀ b u, H1 b = some u → (∀ z, u ≠ .tbl z) → H2 b = some u := sm
  have sq : ∀ {a : Addr} {xs : List V}, SqL X.K H1 a xs → SqL X.K H2 a xs := fun {a xs} z => by
    rcases z with (z | ⟨o, z⟩) | z
    · exact .inl (.inl (up _ _ z fun _ e => by cases e))
    · exact .inl (.inr ⟨o, up _ _ z fun _ e => by cases e⟩)
    · exact .inr z
  have rd2 : Rd H2 dn (.dK kvs) := by
    rcases hd with z | ⟨o, z⟩
    · exact .inl (up _ _ z fun _ e => by cases e)
    · exact .inr ⟨o, up _ _ z fun _ e => by cases e⟩
  obtain ⟨its, rv, pl, _⟩ := I2.list (sq hl)
  have each := each_ints rv
  have name_at : ∀ n ∈ ns, (zs.map V.str)[n.toNat]? = some (.str (zs.getD n.toNat Str.empty)) := fun n hn => by
    obtain ⟨h0, h1⟩ := hin n hn
    have : n.toNat < zs.length := by omega
    rw [List.getElem?_map, List.getElem?_eq_getElem this, List.getD_eq_getElem?_getD, List.getElem?_eq_getElem this]
    rfl
  have hcells : ∃ cn, (cloFrom X.env.cells scope.names []).lookup ("net" : Str) = some cn ∧ s2.heap.IsCell cn (some (.ref dn)) := by
    obtain ⟨m, _, hlk⟩ := I2.loc
    obtain ⟨w', r, z⟩ := hlk j ("net" : Str) (.ref dn) hN hσ (.inr (.inl hnc))
    obtain rfl : w' = Value.ref dn := r
    rcases z with ⟨k', _⟩ | ⟨_, c3, e3, z3⟩
    · have k' : X.env.scope.names.lookup ("net" : Str) = some .local := k'
      rw [hnc] at k'
      cases k'
    · refine ⟨c3, ?_, z3⟩
      rcases hnames with h | h <;> rw [h] <;> simp [cloFrom, e3]
  obtain ⟨cn, hcl, hcell⟩ := hcells
  obtain ⟨⟨oc, ov, tq, r1, r2, r3⟩, _, _⟩ := I2.hok c' _ hcd
  refine PySem.W.sorted_key_data (b := false) (f := .ref f) (fun n : Int => PyData.str (zs.getD n.toNat Str.empty)) pl.isList each ?_ ?_ ?_ ?_ (PyProof.Rows.ksk_s1 _ _) (fun _ => PyProof.Rows.ksk_l1 _ _) (fun x => PyProof.Rows.ksk_t1 f x) ?_ ?_
  · intro d hd d' hd'
    obtain ⟨_, _, rfl⟩ := List.mem_map.mp hd
    obtain ⟨_, _, rfl⟩ := List.mem_map.mp hd'
    rfl
  · exact .inr fun d hd => by
      obtain ⟨_, _, rfl⟩ := List.mem_map.mp hd
      exact ⟨nofun, nofun⟩
  · rw [sizeLine_eq]; omega
  · intro n hn
    have := hr.un
    show X.A.units + 2 + PyData.depth (.str _) < cLine
    simp only [PyData.depth]
    omega
  · rintro v n ⟨t, rfl⟩ hm h tk kp
    obtain ⟨h0, h1⟩ := hin n hm
    have J : Inv X pins σ H2 { s2 with heap := h, toks := tk } := I2.kept kp
    have hd3 : X.A.in1.in1.depth < recursionLimit := by have := hr.dp; show X.A.depth < _; omega
    refine lam_turn J hd3 (J.nolimit) (kp _ _ hf) ⟨oc, ov, tq, kp _ _ r1, r2, r3⟩ hco hgen hkind ?_ ?_ ?_ (hbind _ _ _ _ _ _ _) hcl ?_ rd2 hn (sq hz) h0 (by omega) (name_at n hm)
    · rcases hnames with h | h <;> rw [h] <;> rfl
    · rcases hnames with h | h <;> rw [h] <;> rfl
    · intro y hy
      rcases hnames with h | h <;> rw [h] at hy <;> simp at hy <;> rcases hy with rfl | rfl <;> nofun
    · obtain ⟨o, e1, e2⟩ := hcell
      exact ⟨o, kp _ _ e1, e2⟩
  · intro out c h' tk kp _ hget hlen each2
    have perm := List.mergeSort_perm ns (PySem.W.dataLe false fun n : Int => PyData.str (zs.getD n.toNat Str.empty))
    have hle : (ns.mergeSort (PySem.W.dataLe false fun n : Int => PyData.str (zs.getD n.toNat Str.empty))).length ≤ sizeLine := by rw [perm.length_eq, sizeLine_eq]; omega
    exact ⟨.ref _, upd H2 (s2.heap.objs.size + 1) (.lst ((ns.mergeSort _).map V.int)), I2.laid (t' := tk) kp (Nat.le_succ _) ⟨by rw [List.length_map]; exact hle, out, c, vals_eachI each2, hget⟩, rfl, q _ H2 _ perm st (I2.hok.fresh (Nat.le_succ _))⟩
end
section
variable {K : PySem.W.Frag}
theorem valV_get {H : Hp} {a : Addr} {z : Str} {r : Option V} (h : DGet H a (.str z) r) : ∃ kvs, Rd H a (.dK kvs) ∧ r = valV kvs (Sum.inr z) := by
  rcases h with ⟨kvs, k, e, ey, l⟩ | ⟨kvs, k, b, e, ey, eb, l⟩
  · cases k with
    | inl i => cases ey
    | inr x => cases ey; exact ⟨kvs, e, l⟩
  · cases ey
theorem rel_intsL {N : Hp} : ∀ {ns : List Int} {vs : List V}, RelL K N vs (ns.map D.int) → vs = ns.map V.int
  | [], _, r => by cases r; rfl
  | n :: ns, _, r => by
    cases r with
    | cons h r => cases h; rw [rel_intsL r]; rfl
theorem rel_strs {N : Hp} : ∀ {ns : List Str} {vs : List V}, RelL K N vs (ns.map D.str) → vs = ns.map V.str
  | [], _, r => by cases r; rfl
  | n :: ns, _, r => by
    cases r with
    | cons h r => cases h; rw [rel_strs r]; rfl
theorem CC.tab {E : En} {G : Gm} {M : Mp} {N H H2 : Hp} {σ : L2.St} {P : Addr} {q : Str} (C : CC K E G M N σ H) (hM : M P = some (.tab q)) (st : TabStep H P q H2) : ∃ N2, CC K E G M N2 σ H2 ∧ Same N N2 := by
  rcases st with rfl | ⟨c', ps, ps', h1, hP, h2, h3, rfl⟩
  · exact ⟨N, C, Same.refl N⟩
  · obtain ⟨hNc, hMc⟩ := C.cm.none h1
    have C2 := C.new (o := LamX.CodeO c' q) h1
    obtain ⟨_, ps0, hP0, _, tAll⟩ := C.cm.hm _ _ hM
    rw [hP] at hP0
    cases hP0
    have nPc : P ≠ c' := ne_of_none hP h1
    have sN : Same N (upd N c' (LamX.CodeO c' q)) := same_new hNc
    have C3 := C2.mut (p := P) (o := .tbl ps') (c := .tab q) hM ⟨ps', upd_same, h2, fun pos cv e => ?_⟩
    · rw [mupd_self hM, upd_comm (Ne.symm nPc)] at C3
      exact ⟨_, C3, sN⟩
    · rcases h3 pos cv e with e | rfl
      · obtain ⟨c, e1, e2⟩ := tAll pos cv e
        exact ⟨c, e1, sN _ _ e2⟩
      · exact ⟨c', rfl, upd_same⟩
theorem tabAt_of {M : Mp} {N H : Hp} {P : Addr} {q : Str} (c : CM K M N H) (hM : M P = some (.tab q)) : TabAt H P q := by
  obtain ⟨_, ps, hP, h1, tAll⟩ := c.hm _ _ hM
  exact ⟨ps, hP, h1, fun pos cv e => by
    obtain ⟨d, e1, e2⟩ := tAll pos cv e
    exact ⟨d, e1, c.sm _ _ e2⟩⟩
theorem se_sortL {j : Nat} {P : Addr} {q : Str} {ta : TE} {aa : aE} (h : SE K ta aa) : SE K (tSortL K j P q ta) (aSortL j P q aa) := by
  intro E G M N σ H C Q Qc hq k
  refine h E G M N σ H C _ _ hq fun d v M1 N1 H1 h1 C1 s1 r1 => ?_
  obtain ⟨ns, dn, zs, hL, hi, hnl, hG, hg, hin, hzl, hM, hq⟩ := h1
  obtain ⟨l, vs, rfl, r2, h4⟩ := rel_itemsM C1.cm r1 hi
  rcases h4 with ⟨_, h4⟩ | ⟨e, _⟩
  · obtain ⟨vn, hσ, rn⟩ := C1.sl.2 _ _ hG
    obtain ⟨dnA, oV, rfl, g, e⟩ := dget_of C1.cm rn (.str "names") hg
    rcases e with ⟨_, e⟩ | ⟨x1, x2, rfl, e, r⟩
    · cases e
    · cases e
      obtain ⟨kvs, hrd, hval⟩ := valV_get g
      obtain ⟨ln, xs, rfl, r3, h5⟩ := rel_itemsM (ds := zs.map .str) C1.cm r rfl
      rcases h5 with ⟨_, h5⟩ | ⟨e, _⟩
      · have e1 := rel_intsL r2
        have e2 := rel_strs r3
        subst e1 e2
        refine ⟨l, dnA, ln, ns, kvs, zs, rfl, h4, hnl, hσ, hrd, hval.symm, h5, hin, hzl, tabAt_of C1.cm hM, fun out H2 p hp st hnp => ?_⟩
        obtain ⟨N2, C2, s2⟩ := C1.tab hM st
        have C3 := C2.new (o := .lst (out.map V.int)) hnp
        exact k _ _ _ _ _ (hq out hp) C3 ((s1.trans s2).trans (same_new (C2.cm.none hnp).1)) (.list upd_same (rel_ints out))
      · exact absurd (show true = false from e) (by decide)
  · rw [hL] at e; cases e
end
section
variable {X : Cx}
theorem de_sortL {e : Expr} {ta : TE} {aa : aE} {j : Nat} {c P : Addr} {p lp kp pos p1 p2 p3 p4 p5 : Pos} {kk : Nat} {params : Arguments} {scope : Scope} (ha : DE X e ta aa) (hg : Gl X "sorted") (hm : X.mg "sorted" = none) (TB : LamX.TabB X.base X.mg c P) (hcode : X.env.code = .ref c) (hN : X.N[j]? = some ("net" : Str)) (hnc : X.env.scope.names.lookup ("net" : Str) = some .cell) (hr : Room 3 X.A)
    (hdef : defaultsOf params X.env = ([], []) := by rfl) (hco : scope.isCoroutine = false := by rfl) (hgen : scope.isGenerator = false := by rfl) (hkind : scope.kind = .function := by rfl) (hnames : scope.names = [(("net" : Str), .free), (("k" : Str), .local)] ∨ scope.names = [(("k" : Str), .local), (("net" : Str), .free)] := by first | exact .inl rfl | exact .inr rfl)
    (hbind : ∀ (q : Str) (cl : List (Str × Addr)) (pm cv ctv : Value) (i : Int) (t : Tok), bindArgs (PySem.W.kla_fn "<lambda>" q params (.Subscript (.Subscript (.Name "net" p1) (.Constant (.str "names") kk p2) p3) (.Name "k" p4) p5) scope cl pm cv ctv) ⟨[.int i t], []⟩ = pure [(("k" : Str), .int i t)] := by intros; rfl)
    (hs0 : starEach [e] X.env = (false, eval e X.env) :: starEach [] X.env := by rfl) (he : backTo pos (starEach [e] X.env) = (false, eval e X.env) :: backTo pos (starEach [] X.env) := by rfl) (hpl : (backTo pos (starEach [e] X.env)).any (·.1) = false := by rfl) :
    DE X (.Call (.Name "sorted" p) [e] [⟨some "key", .Lambda params (.Subscript (.Subscript (.Name "net" p1) (.Constant (.str "names") kk p2) p3) (.Name "k" p4) p5) scope lp, kp⟩] pos) (tSortL X.K j P (X.env.qual ++ "<lambda>") ta) (aSortL j P (X.env.qual ++ "<lambda>") aa) :=
  ⟨pe_sortL ha.pe hg hm TB hcode hN hnc hr hdef hco hgen hkind hnames hbind hs0 he hpl, se_sortL ha.se⟩
end
end DL

set_option Elab.async false
set_option linter.all false
set_option maxRecDepth 100000
/-! DX11: a def whose code object is known; texts; displays that stand; setdefault; a dict with tuple keys, locked. -/
namespace DL
open PySem PySem.Spec PyProof.Rows L2
section
variable {P : Program} {w : World} {K : PySem.W.Frag} {mg : Str → Option Value} {base : Heap}
theorem okDc {x qual : Str} {st : Stmt} {f c : Addr} {fd : FuncData} {N ps : List Str} {k n : Nat} {sp : aSp} (F : Fun K x qual st f fd) (S : FnScope N ps (defScope st)) (hn : n = ps.length) (hc : fd.code = .ref c)
    (hbody : ∀ (A : Around) (outer : List Env) (s : Shared) (H : Hp) (E : XK), Room k (A.deeper (envOfC qual (defScope st) s.heap.objs.size f (.ref c))) →
      ∃ ts as, DSs (cxOf CX0 P w K mg base N qual (defScope st) f (.ref c) A outer s H E).nox (defBody st) ts as ∧ ∀ ds M Q, ds.length = n → sp ds M Q → as { m0 := M, nx := fun _ M' => Fin K M Q .non M', rt := Fin K M Q } (startG N ds) M) :
    FnOk P w K mg base CX0 (k + 1) f fd ps (lift K n sp) := by
  obtain ⟨oc, od, kV, doc, pm, an, cdv, ct, osl, rfl, lk, hcd⟩ := F.ex
  obtain rfl : cdv = Value.ref c := hc
  refine fn_of lk hcd S (fun vs H Q E h => ?_) (fun A outer s H vs Q E hr h => ?_)
  · obtain ⟨ds, M, N, Q', hl, _, r, _⟩ := h
    rw [r.length, hl, hn]
  · obtain ⟨ts, as, hd, hb⟩ := hbody A outer s H E hr
    obtain ⟨ds, M, N', Q', hl, cm, r, hsp, k⟩ := h
    refine ⟨ts, hd.ps.nox, hd.ss ⟨M, N', H⟩ _ M N' _ H ⟨.refl, cm, sl_start r⟩ _ _ rfl (hb ds M Q' hl hsp) ⟨?_, ?_, fun _ _ _ _ _ z _ _ => z.elim, fun _ _ _ _ _ z _ _ => z.elim⟩⟩
    · rintro G' M' N2 σ' H' ⟨d', M2, cv, q⟩ C' s'
      obtain ⟨N3, f3, c3, r3⟩ := cv _ _ _ _ V.non C'.fr C'.cm .non
      exact k _ _ _ _ _ q f3 c3 r3
    · rintro d v G' M' N2 σ' H' ⟨d', M2, cv, q⟩ C' s' r'
      obtain ⟨N3, f3, c3, r3⟩ := cv _ _ _ _ v C'.fr C'.cm r'
      exact k _ _ _ _ _ q f3 c3 r3
end
/-! ### texts -/
def fStrI : VL := fun ds M Q => match ds with
  | [.int i] => 0 ≤ i ∧ i < 1000000 ∧ Q (.str (toString i)) M
  | _ => False
def fJoin : VM := fun d ds M Q => match d, ds with
  | .str a, [e] => a.length ≤ 10 ∧ ∃ ys : List Str, itemsM M e = some (ys.map .str) ∧ ys.length ≤ 1000 ∧ (∀ y ∈ ys, y.length ≤ 1000) ∧ Q (.str (Txt.join a ys)) M
  | _, _ => False
section
variable {X : Cx} {K : PySem.W.Frag}
theorem sl_strI : SL K (fun xs H Q => ∃ i : Int, xs = [.int i] ∧ i.natAbs.log2 < 1920 ∧ Q (.str (toString i)) H) fStrI := by
  intro E G M N σ H C xs ds rx Q Qc h k
  unfold fStrI at h
  split at h
  · obtain ⟨v, rfl, r⟩ := rel1 rx
    cases r
    rename_i i
    refine ⟨i, rfl, ?_, k.at C h.2.2 (.str _)⟩
    by_cases z : i.natAbs = 0
    · rw [z]; decide
    · exact Nat.lt_trans ((Nat.log2_lt z (k := 20)).mpr (by omega)) (by decide)
  · exact h.elim
theorem sum_le : ∀ (ys : List Str), (∀ y ∈ ys, y.length ≤ 1000) → (ys.map (·.length)).sum ≤ 1000 * ys.length
  | [], _ => by simp
  | y :: ys, h => by
    have h1 := h y (List.mem_cons_self ..)
    have h2 := sum_le ys fun z hz => h z (List.mem_cons_of_mem _ hz)
    rw [List.map_cons, List.sum_cons, List.length_cons]
    omega
theorem sm_join : SM K "str" (fun x xs H Q => ∃ a p, ∃ ys : List Str, x = .str a ∧ xs = [.ref p] ∧ (SqL K H p (ys.map V.str) ∨ SqT K H p (ys.map V.str)) ∧ (ys.map (·.length)).sum + ys.length * a.length ≤ 16777216 ∧ Q (.str (Txt.join a ys)) H) fJoin := by
  intro E G M N σ H C x d xs ds rx rs Q Qc h k
  unfold fJoin at h
  split at h
  · cases rx
    rename_i a e
    obtain ⟨ha, ys, hi, hl, hy, h⟩ := h
    obtain ⟨v, rfl, r⟩ := rel1 rs
    obtain ⟨p, vs, rfl, r2, h4⟩ := rel_itemsM C.cm r hi
    have ev := rel_strs r2
    subst ev
    have h5 : ys.length * a.length ≤ 1000 * 10 := Nat.mul_le_mul hl ha
    have := sum_le ys hy
    refine ⟨a, p, ys, rfl, rfl, ?_, by omega, k.at C h (.str _)⟩
    rcases h4 with ⟨_, h4⟩ | ⟨_, h4⟩
    · exact .inl h4
    · exact .inr h4
  · exact h.elim
end
/-! ### displays that stand -/
def aDispF (as : List (aE × aE)) : aE := fun G M Q => aPairs as G M fun qs M1 => match keyPs qs with
  | some ms => ms.length ≤ 15 ∧ Q (.dK (mergeD [] ms)) M1
  | none => False
section
variable {X : Cx} {pos : Pos} {keys : List (Option Expr)} {values : List Expr} {trs : List (TE × TE)} {as : List (aE × aE)}
theorem de_dispF (h : DPs X pos keys values trs as) (hall : keys.all (·.isSome) = true := by rfl) (hl : keys.length = values.length := by rfl) (h0 : keys ≠ [] := by simp) (h15 : keys.length ≤ 15 := by decide) :
    DE X (.Dict keys values pos) (tFrz (tDisp trs)) (aDispF as) := ⟨pe_frz (pe_disp h.pp hall hl h0 h15), by
  intro E G M N σ H C Q Qc q k p hp
  refine h.sp _ G M N σ _ (foreign C (.dK []) hp).1 _ _ q fun qs ps M1 N1 H1 h1 C1 s1 r1 => ?_
  split at h1
  · rename_i ms hms
    obtain ⟨kvs, rfl, rf⟩ := keyPs_rel r1 hms
    have r2 : RelF X.K N1 (mergeK [] kvs) (mergeD [] ms) := rf.merge .nil
    obtain ⟨C2, e2⟩ := unforeign C hp C1 (hasK (N := N1) (H := upd H1 p (.dK (mergeK [] kvs))) upd_same r2)
    refine ⟨e2, kvs, rfl, by rw [rf.length]; exact h1.1, p, _, rfl, upd_same, True.intro, fun od => ?_⟩
    have h0 : E.H p = none := C.h0 hp
    have hM1 : M1 p = none := (C1.fr.keep p _ upd_same (C.cm.none hp).2).2
    have C3 := (C2.drop (p := p)).frz (o := .frz od (.dK (mergeK [] kvs))) (by unfold mdel; rw [if_pos rfl]) (C2.cm.hm p _ mupd_same).1 h0
    rw [show mdel (mupd M1 p (.dK (mergeD [] ms))) p = M1 by funext b; unfold mdel mupd; by_cases e : b = p <;> simp [e, hM1]] at C3
    have sn := same_new (o := .frz od (.dK (mergeK [] kvs))) (C2.cm.hm p _ mupd_same).1
    exact k _ _ _ _ _ h1.2 C3 (s1.trans sn) (.dK upd_same (r2.mono sn))
  · exact h1.elim⟩
end
/-! ### d.setdefault(k, x) -/
def aDSetd (ad ay ax : aE) : aE := fun G M Q => ad G M fun d M1 => ay G M1 fun y M2 => ax G M2 fun z M3 => ∃ p gs k, d = .ref p ∧ M1 p = some (.dK gs) ∧ (∃ gs', M3 p = some (.dK gs') ∧ gs' = gs) ∧ keyOf y = some k ∧ gs.length < 1000000 ∧
  (∀ v, valD gs k = some v → Q v M3) ∧ (valD gs k = none → Q z (mupd M3 p (.dK (putD gs k z))))
end DL

set_option Elab.async false
set_option linter.all false
set_option maxRecDepth 100000
/-! DX12: setdefault; dicts with tuple keys locked and walked; list(range(a, b)). -/
namespace DL
open PySem PySem.Spec PyProof.Rows L2
/-! ### d.setdefault(k, x) -/
def aDSet2 (ad ay ax : aE) : aE := fun G M Q => ad G M fun d M1 => isDct M1 d = true ∧ ay G M1 fun y M2 => ax G M2 fun z M3 => ∃ p gs k, d = .ref p ∧ M3 p = some (.dK gs) ∧ keyOf y = some k ∧ gs.length < 1000000 ∧
  (∀ v, valD gs k = some v → Q v M3) ∧ (valD gs k = none → Q z (mupd M3 p (.dK (putD gs k z))))
section
variable {X : Cx} {K : PySem.W.Frag} {o e f a b : Expr} {apos cpos p p2 pos pos2 : Pos} {td ty tx ta tb : TE} {ad ay ax aa ab : aE}
theorem de_dset2 (ho : DE X o td ad) (he : DE X e ty ay) (hf : DE X f tx ax) (m : M2 X o "setdefault" apos e f cpos) : DE X (.Call (.Attribute o "setdefault" apos) [e, f] [] cpos) (tDSetd td ty tx) (aDSet2 ad ay ax) := ⟨pe_dsetd ho.pe he.pe hf.pe m, by
  intro E G M N σ H C Q Qc h k
  refine ho.se E G M N σ H C _ _ h fun d v M1 N1 H1 h1 C1 s1 r1 => ?_
  obtain ⟨hd, h1⟩ := h1
  obtain ⟨a0, rfl, ha⟩ := isDct_rel C1.cm r1 hd
  refine ⟨a0, rfl, ha, ?_⟩
  refine he.se E G M1 N1 σ H1 C1 _ _ h1 fun y u M2 N2 H2 h2 C2 s2 r2 => ?_
  refine hf.se E G M2 N2 σ H2 C2 _ _ h2 fun z w M3 N3 H3 h3 C3 s3 r3 => ?_
  obtain ⟨p, gs, q, rfl, hM, hk, hl, q1, q2⟩ := h3
  have ep := rel_ref r1
  cases ep
  obtain ⟨kvs, hH, rf⟩ := C3.cm.dKs hM
  have ey := key_rel r2 hk
  subst ey
  have s' : Same N N3 := s1.trans (s2.trans s3)
  refine ⟨kvs, q, hH, rfl, by rw [rf.length]; exact big_lt (Nat.le_of_lt hl), fun x hx => ?_, fun hn => ?_⟩
  · rcases rf.val q with ⟨x1, _⟩ | ⟨x', d', x1, x2, x3⟩
    · rw [x1] at hx; cases hx
    · rw [x1] at hx; cases hx
      exact k _ _ M3 N3 H3 (q1 _ x2) C3 s' x3
  · rcases rf.val q with ⟨_, x2⟩ | ⟨x', d', x1, _, _⟩
    · exact k _ _ _ N3 _ (q2 x2) (C3.mut hM (hasK upd_same (rf.put q r3))) s' r3
    · rw [x1] at hn; cases hn⟩
/-! ### list(range(a, b)) -/
def fListRg2 : V2 := fun d e M Q => match d, e with
  | .int m, .int n => 0 ≤ m ∧ m ≤ 1000000 ∧ n ≤ 1000000 ∧ -1000000 ≤ n ∧ Q (.list (rng m (n - m).toNat)) M
  | _, _ => False
theorem de_listRg2 (hg : Gl X "list") (hm : X.mg "list" = none) (hg2 : Gl X "range") (hm2 : X.mg "range" = none) (ha : DE X a ta aa) (hb : DE X b tb ab) (hc : X.calm = true := by rfl) (na : starEach [a, b] X.env = (false, eval a X.env) :: starEach [b] X.env := by rfl)
    (nb : starEach [b] X.env = (false, eval b X.env) :: starEach [] X.env := by rfl) (hp : (backTo pos2 (starEach [b] X.env)).any (·.1) = false := by rfl)
    (na2 : starEach [Expr.Call (.Name "range" p2) [a, b] [] pos2] X.env = (false, eval (Expr.Call (.Name "range" p2) [a, b] [] pos2) X.env) :: starEach [] X.env := by rfl) :
    DE X (.Call (.Name "list" p) [.Call (.Name "range" p2) [a, b] [] pos2] [] pos) (tLstRg (tRg2 ta tb)) (aBin fListRg2 aa ab) := ⟨pe_listRg hc hg hm (prg_2 hg2 hm2 ha.pe hb.pe na nb hp) na2, by
  intro E G M N σ H C Q Qc h k
  refine ha.se E G M N σ H C _ _ h fun d v M1 N1 H1 h1 C1 s1 r1 => ?_
  refine hb.se E G M1 N1 σ H1 C1 _ _ h1 fun e u M2 N2 H2 h2 C2 s2 r2 => ?_
  unfold fListRg2 at h2
  split at h2
  · rename_i m n
    have r1' := r1.mono s2
    cases r1'
    cases r2
    refine ⟨m, n, rfl, rfl, ⟨by omega, by omega, by omega, by omega, by omega⟩, fun q hq => (k.from (s1.trans s2)).new C2 hq h2.2.2.2.2 fun N' s e => .list e ?_⟩
    exact rel_rng m _
  · exact h2.elim⟩
end
/-! ### a dict with tuple keys, locked ahead of a statement -/
def aLockT (j : Nat) (t : aS) : aS := fun A G M => ∃ p gs, G[j]? = some (some (.ref p)) ∧ M p = some (.dT gs) ∧ A.m0 p = none ∧ t A (G.set j (some (.dT gs))) (mdel M p)
section
variable {X : Cx} {K : PySem.W.Frag} {s : Stmt} {t : TS} {a : aS} {j : Nat}
theorem ss_lockT (h : SS K t a) : SS K (tLock j t) (aLockT j a) := by
  intro E G M N σ H C A B m0 q k
  obtain ⟨p, gs, hg, hM, hm0, q⟩ := q
  obtain ⟨hN, kvs, hH, r⟩ := C.cm.hm p _ hM
  have h0 : E.H p = none := by
    cases w : E.H p with
    | none => rfl
    | some o =>
      obtain ⟨_, z⟩ := C.fr.keep p o w (by rw [← m0]; exact hm0)
      rw [z] at hM
      cases hM
  obtain ⟨v, hv, rv⟩ := C.sl.2 j _ hg
  have ev := rel_ref rv
  subst ev
  refine ⟨p, .dT kvs, hv, hH, trivial, fun od => ?_⟩
  have C2 := (C.drop (p := p)).frz (o := .frz od (.dT kvs)) (by unfold mdel; rw [if_pos rfl]) hN h0
  have sn : Same N (upd N p (.frz od (.dT kvs))) := same_new hN
  refine h E _ _ _ σ _ (C2.slots ⟨by rw [List.length_set]; exact C.sl.1, fun i d e => ?_⟩) A B m0 q (k.from sn)
  by_cases z : j = i
  · subst z
    rw [List.getElem?_set_self (List.getElem?_eq_some_iff.mp hg).1] at e
    cases e
    exact ⟨_, hv, .dT upd_same (r.mono sn)⟩
  · rw [List.getElem?_set_ne z] at e
    exact C2.sl.2 i d e
theorem ds_lockT (h : DS X s t a) : DS X s (tLock j t) (aLockT j a) := ⟨ps_lock h.ps, ss_lockT h.ss⟩
end
theorem go_lockT {j : Nat} {t : aS} {A : aEnds} {G : Gm} {M : Mp} {p : Addr} {gs : List (List Key × D)} (h : G[j]? = some (some (.ref p))) (h1 : M p = some (.dT gs)) (h2 : A.m0 p = none) (q : t A (G.set j (some (.dT gs))) (mdel M p)) : aLockT j t A G M := ⟨p, gs, h, h1, h2, q⟩
end DL

set_option Elab.async false
set_option linter.all false
set_option maxRecDepth 100000
/-! DX13: [d[m] for m in d if m[0] in xs], d a locked dict whose keys are pairs. -/
namespace DL
open PySem PySem.Spec PyProof.Rows L2
def aLvl (jl jm jr : Nat) : aE := fun G M Q => ∃ (gs : List (List Key × D)) (rs : List Int), G[jl]? = some (some (.dT gs)) ∧ G[jr]? = some (some (.list (rs.map .int))) ∧ jm < G.length ∧ gs.length ≤ 100000 ∧ (∀ kv ∈ gs, ∃ a b i, kv = ([Sum.inl a, Sum.inl b], D.int i)) ∧
  ∀ out : List Int, out.length ≤ gs.length → (∀ i ∈ out, ∃ kv ∈ gs, kv.2 = .int i) → Q (.list (out.map .int)) M
section
variable {K : PySem.W.Frag}
theorem valV_at {k : Type} [DecidableEq k] {x : k} {v : V} : ∀ {kvs : List (k × V)} {i : Nat}, kvs[i]? = some (x, v) → ∃ v', valV kvs x = some v' ∧ (x, v') ∈ kvs
  | [], i, h => by simp at h
  | (y, u) :: r, i, h => by
    by_cases e : y = x
    · subst e
      exact ⟨u, valV_pos rfl, List.mem_cons_self ..⟩
    · cases i with
      | zero => simp at h; exact absurd h.1 e
      | succ i =>
        obtain ⟨v', h1, h2⟩ := valV_at (kvs := r) (i := i) (by simpa using h)
        exact ⟨v', by rw [valV_neg e]; exact h1, List.mem_cons_of_mem _ h2⟩
theorem relF_mem {N : Hp} {k : Type} {x : k} {v : V} : ∀ {kvs : List (k × V)} {gs : List (k × D)}, RelF K N kvs gs → (x, v) ∈ kvs → ∃ d, (x, d) ∈ gs ∧ RelD K N v d
  | _, _, .nil, h => by simp at h
  | _, _, .cons h1 r, h => by
    rcases List.mem_cons.mp h with e | h
    · cases e
      exact ⟨_, List.mem_cons_self .., h1⟩
    · obtain ⟨d, h2, h3⟩ := relF_mem r h
      exact ⟨d, List.mem_cons_of_mem _ h2, h3⟩
theorem flat_ints (rs : List Int) : (rs.map V.int).all flatV = true := by
  rw [List.all_eq_true]
  intro v hv
  obtain ⟨i, _, rfl⟩ := List.mem_map.mp hv
  rfl
theorem se_lvl {jl jm jr : Nat} (h1 : jm ≠ jl) (h2 : jm ≠ jr) :
    SE K (tLc (iKeys (tVar jl)) (gName jm) (tTest (tOp (rInA K false) (tOp (rIxA K) (tVar jm) (tC (.int 0))) (tVar jr))) (tOp (rIxA K) (tVar jl) (tVar jm)) [jm]) (aLvl jl jm jr) := by
  intro E G M N σ H C Q Qc hq k
  obtain ⟨gs, rs, hG, hGr, hjm, hlen, hkey, q⟩ := hq
  obtain ⟨v, hσ, rv⟩ := C.sl.2 _ _ hG
  obtain ⟨u, hσr, ru⟩ := C.sl.2 _ _ hGr
  cases rv with
  | @dT d ob kvs _ hN rf =>
    cases ru with
    | @list ar xs _ hNr rl =>
      have ex := rel_intsL rl
      subst ex
      have hH := C.cm.sm _ _ hN
      have hHr := C.cm.sm _ _ hNr
      have nv : ∀ k v, (k, v) ∈ kvs → ∃ a b i, k = [Sum.inl a, Sum.inl b] ∧ v = .int i ∧ ∃ kv ∈ gs, kv.2 = D.int i := fun k v hm => by
        obtain ⟨dd, h3, h4⟩ := relF_mem rf hm
        obtain ⟨a, b, i, e⟩ := hkey _ h3
        cases e
        cases h4
        exact ⟨a, b, i, rfl, rfl, _, h3, rfl⟩
      refine ⟨_, hσ, d, ob, rfl, .inr ⟨kvs, hH, fun L hL => ⟨fun i m H' => ∃ out : List Int, H' = upd H L (.lst (out.map V.int)) ∧ out.length ≤ i ∧ (∀ z ∈ out, ∃ kv ∈ gs, kv.2 = D.int z) ∧ i + m = kvs.length, ⟨kvs.length, [], rfl, by simp, by simp, by simp⟩, fun i m H' hW => ?_⟩⟩⟩
      obtain ⟨out, rfl, ho, hm, him⟩ := hW
      have ed : d ≠ L := ne_of_none hH hL
      have er : ar ≠ L := ne_of_none hHr hL
      have hd2 : (upd H L (.lst (out.map V.int))) d = some (.frz ob (.dT kvs)) := by rw [upd_ne ed]; exact hH
      by_cases hi : i < kvs.length
      · refine .inr ⟨⟨hd2, hi⟩, fun H' => ∃ out' : List Int, H' = upd H L (.lst (out'.map V.int)) ∧ out'.length ≤ i + 1 ∧ (∀ z ∈ out', ∃ kv ∈ gs, kv.2 = D.int z), fun H' ⟨out', e1, e2, e3⟩ => ⟨m - 1, by omega, out', e1, e2, e3, by omega⟩, fun x H' hy => ?_⟩
        obtain ⟨rfl, ky, vy, q', hky, rfl, hq'⟩ := hy
        obtain ⟨a, b, i0, rfl, rfl, hin⟩ := nv ky vy (List.mem_of_getElem? hky)
        have hlw : jm < (wipe σ [jm]).length := by rw [wipe_length, C.sl.1]; exact hjm
        have s1 : ((wipe σ [jm]).set jm (some (V.ref q')))[jm]? = some (some (.ref q')) := List.getElem?_set_self hlw
        have s2 : ((wipe σ [jm]).set jm (some (V.ref q')))[jr]? = some (some (.ref ar)) := by rw [List.getElem?_set_ne h2, wipe_out (by simpa using Ne.symm h2)]; exact hσr
        have s3 : ((wipe σ [jm]).set jm (some (V.ref q')))[jl]? = some (some (.ref d)) := by rw [List.getElem?_set_ne h1, wipe_out (by simpa using Ne.symm h1)]; exact hσ
        have hr2 : (upd H L (.lst (out.map V.int))) ar = some (.lst (rs.map V.int)) := by rw [upd_ne er]; exact hHr
        refine ⟨by rw [wipe_set _ _ _ _ (by simp), wipe_wipe], ?_⟩
        refine ⟨_, s1, .inl (.inr (.inl ⟨q', _, 0, .int a, rfl, rfl, .inl (.inl hq'), rfl, ?_⟩))⟩
        refine ⟨_, s2, .inl ⟨ar, _, rfl, .inl (.inl (.inl hr2)), rfl, flat_ints rs, ?_⟩⟩
        refine ⟨_, rfl, ?_⟩
        show if inV (V.int a) (rs.map V.int) = true then _ else _
        split
        · obtain ⟨v', w1, w2⟩ := valV_at hky
          obtain ⟨a', b', i1, e1, rfl, hin1⟩ := nv _ _ w2
          refine ⟨_, s3, _, s1, .inr ⟨d, .int i1, rfl, .inr ⟨kvs, _, q', .inr ⟨ob, hd2⟩, rfl, hq', w1.symm⟩, ?_⟩⟩
          refine ⟨out.map V.int, upd_same, ?_, out ++ [i1], ?_, by simp; omega, fun z hz => ?_⟩
          · rw [List.length_map]
            have : kvs.length ≤ 100000 := by rw [rf.length]; exact hlen
            exact Nat.lt_of_le_of_lt (show out.length ≤ 100000 by omega) (by rw [sizeLine_eq]; decide)
          · rw [List.map_append]
            funext c
            unfold upd
            split <;> rfl
          · rcases List.mem_append.mp hz with hz | hz
            · exact hm z hz
            · rcases List.mem_singleton.mp hz with rfl
              exact hin1
        · exact ⟨out, rfl, by omega, hm⟩
      · exact .inl ⟨⟨hd2, by omega⟩, k.new C hL (q out (by rw [← rf.length]; omega) hm) fun N' s e => .list e (rel_ints out)⟩
end
section
variable {X : Cx}
theorem de_lvl {jl jm jr : Nat} {elt tg l : Expr} {ifs : List Expr} {scope : Scope} {y : Str} {pos : Pos} {al : aE} {ag : BV aG} {at' : BV aT} {ae : BV aE} (hc : X.calm = true) (hN : X.N.Nodup) (hl : DE X l (tVar jl) al) (ok : BlkOk X.N X.env.scope scope [(y, jm)])
    (hg : ∀ (s : Shared) (H : Hp) (C : Addr) (cl : List (Str × Addr)) (fp : List Addr), DG (X.blk s H scope (compEnvC scope cl C X.env) fp) tg (gName jm) (ag s H C cl fp))
    (ht : ∀ (s : Shared) (H : Hp) (C : Addr) (cl : List (Str × Addr)) (fp : List Addr), DTs (X.blk s H scope (compEnvC scope cl C X.env) fp) ifs (tTest (tOp (rInA X.K false) (tOp (rIxA X.K) (tVar jm) (tC (.int 0))) (tVar jr))) (at' s H C cl fp))
    (he : ∀ (s : Shared) (H : Hp) (C : Addr) (cl : List (Str × Addr)) (fp : List Addr), DE (X.blk s H scope (compEnvC scope cl C X.env) fp) elt (tOp (rIxA X.K) (tVar jl) (tVar jm)) (ae s H C cl fp)) (h1 : jm ≠ jl := by decide) (h2 : jm ≠ jr := by decide) (hs : ∀ x, foldedSetIterable l X.env x = pure x := by intro _; rfl) :
    DE X (.ListComp elt [⟨tg, l, ifs, 0⟩] scope pos) (tLc (iKeys (tVar jl)) (gName jm) (tTest (tOp (rInA X.K false) (tOp (rIxA X.K) (tVar jm) (tC (.int 0))) (tVar jr))) (tOp (rIxA X.K) (tVar jl) (tVar jm)) [jm]) (aLvl jl jm jr) :=
  ⟨pe_lc hc hN (pi_keys hl.pe) ok (fun s H C cl fp => (hg s H C cl fp).pg) (fun s H C cl fp => (ht s H C cl fp).pt) (fun s H C cl fp => (he s H C cl fp).pe) hs, se_lvl h1 h2⟩
end
end DL

set_option Elab.async false
set_option linter.all false
set_option maxRecDepth 100000
/-! DX14: readings of texts, said in short. -/
namespace DL
open PySem PySem.Spec PyProof.Rows L2
section
variable {M : Mp} {Q : QD}
theorem go_ixS {z : Str} {i : Int} (h0 : 0 ≤ i) (h1 : i < (z.length : Int)) (h : z.length ≤ 1000000) (q : ∀ x : Str, x.length = 1 → Q (.str x) M) : fIx (.str z) (.int i) M Q := by
  have hl : z.cps.toList.length = z.length := Array.length_toList
  have e : atI z.cps.toList i = some (z.cps.toList[i.toNat]'(by omega)) := by
    rw [atI_nn _ h0]
    exact List.getElem?_eq_getElem _
  show z.length ≤ 1000000 ∧ (match atI z.cps.toList i with | some c => Q (.str ⟨#[c]⟩) M | none => False)
  rw [e]
  exact ⟨h, q _ rfl⟩
theorem go_strI {i : Int} (h0 : 0 ≤ i) (h1 : i < 1000000) (q : Q (.str (toString i)) M) : fStrI [.int i] M Q := ⟨h0, h1, q⟩
theorem go_join {a : Str} {e : D} {ys : List Str} (ha : a.length ≤ 10) (h : itemsM M e = some (ys.map .str)) (hl : ys.length ≤ 1000) (hy : ∀ y ∈ ys, y.length ≤ 1000) (q : Q (.str (Txt.join a ys)) M) : fJoin (.str a) [e] M Q := ⟨ha, ys, h, hl, hy, q⟩
theorem flat_strs (ys : List Str) : (ys.map D.str).all flatD = true := by
  rw [List.all_eq_true]
  intro v hv
  obtain ⟨i, _, rfl⟩ := List.mem_map.mp hv
  rfl
theorem memD_strs (y : Str) (ys : List Str) : memD (.str y) (ys.map .str) = decide (y ∈ ys) := by
  unfold memD
  induction ys with
  | nil => simp
  | cons z ys ih =>
    rw [List.map_cons, List.any_cons, ih]
    show ((z == y) || decide (y ∈ ys)) = decide (y ∈ z :: ys)
    by_cases e : z = y
    · subst e; simp
    · have : (z == y) = false := by simpa using e
      rw [this]
      simp [Ne.symm e]
theorem go_inS {neg : Bool} {y : Str} {e : D} {ys : List Str} (h : itemsM M e = some (ys.map .str)) (q : Q (.bl (if neg then !decide (y ∈ ys) else decide (y ∈ ys))) M) : fIn neg (.str y) e M Q := by
  unfold fIn
  simp only [h]
  exact ⟨rfl, flat_strs ys, by rw [memD_strs]; exact q⟩
end
end DL

set_option Elab.async false
set_option linter.all false
set_option maxRecDepth 100000
/-! DX15: a walk over a list that may still change elsewhere, but not while it is walked. -/
namespace DL
open PySem PySem.Spec PyProof.Rows L2
theorem mlist {K : PySem.W.Frag} {E : En} {G : Gm} {M : Mp} {N H : Hp} {σ : L2.St} {p : Addr} {ds : List D} (C : CC K E G M N σ H) (h : M p = some (.lst ds)) : ∃ xs, H p = some (.lst xs) ∧ RelL K N xs ds := by
  obtain ⟨_, h2⟩ := C.cm.hm p _ h
  exact h2
theorem drv_at {K : PySem.W.Frag} {E : En} {G : Gm} {M : Mp} {N H : Hp} {σ : L2.St} {p : Addr} {ds : List D} (C : CC K E G M N σ H) (h : M p = some (.lst ds)) (i : Nat) :
    (ds.length ≤ i → (Itl K p).stop i H) ∧ ∀ d, ds[i]? = some d → (Itl K p).go i H ∧ ∀ x H', (Itl K p).yld i H x H' → H' = H ∧ RelD K N x d := by
  obtain ⟨xs, hH, r⟩ := mlist C h
  have hs : SqL K H p xs := .inl (.inl hH)
  refine ⟨fun hi => ⟨xs, hs, by rw [r.length]; exact hi⟩, fun d hd => ?_⟩
  obtain ⟨x, hx, rx⟩ := r.getR hd
  refine ⟨⟨xs, x, hs, hx⟩, fun y H' hy => ?_⟩
  obtain ⟨rfl, hy⟩ := hy
  obtain rfl : x = y := Option.some.inj (hx.symm.trans (hy xs hs))
  exact ⟨rfl, rx⟩
/-! ### for -/
def forGoR (p : Addr) (all : List D) (g : aG) (b : aS) : List D → aS
  | [], A, G, M => M p = some (.lst all) ∧ A.nx G M
  | d :: ds, A, G, M => M p = some (.lst all) ∧ g d G M fun G' M' => b { A with nx := forGoR p all g b ds A, ct := forGoR p all g b ds A, bk := A.nx } G' M'
def asForR (src : aE) (g : aG) (b : aS) : aS := fun A G M => src G M fun d M1 => ∃ p ds, d = .ref p ∧ M1 p = some (.lst ds) ∧ forGoR p ds g b ds A G M1
section
variable {X : Cx} {tg : Expr} {g : TG} {ag : aG} {tu : TS} {au : aS} {pos : Pos}
theorem ds_forR {iter : Expr} {body : List Stmt} {tl : TE} {al : aE} (hl : DE X iter tl al) (hg : DG X tg g ag) (hb : DSs X body tu au) (hp : PassesOwn (model X.prog X.w) X.A X.env X.xe) (hc : X.calm = true := by rfl)
    (hs : ∀ x, foldedSetIterable iter X.env x = pure x := by intro _; rfl) : DS X (.For tg iter body [] pos) (tFor (iSeq X.K tl) g tu) (asForR al ag au) := ⟨ps_for hp hc (pi_seq hl.pe) hg.pg hb.ps hs, by
  intro E G M N σ H C A B m0 q k
  refine hl.se E G M N σ H C _ _ q fun d v M1 N1 H1 h1 C1 s1 r1 => ?_
  obtain ⟨p, ds, rfl, hM, hf⟩ := h1
  obtain rfl := rel_ref r1
  obtain ⟨xs, hH, _⟩ := mlist C1 hM
  refine ⟨p, rfl, .inl ⟨⟨xs, .inl (.inl hH)⟩, ?_⟩⟩
  refine ⟨fun i m σ H => ∃ G M N', CC X.K E G M N' σ H ∧ Same N1 N' ∧ m = ds.length - i ∧ forGoR p ds ag au (ds.drop i) A G M, ⟨_, G, M1, N1, C1, Same.refl _, rfl, hf⟩, ?_⟩
  rintro i m σ H ⟨G, M, N', C', s', rfl, hf⟩
  by_cases hl : ds.length ≤ i
  · rw [List.drop_eq_nil_of_le hl] at hf
    obtain ⟨hM, hf⟩ := hf
    obtain ⟨d1, d2⟩ := drv_at C' hM i
    exact .inl ⟨d1 hl, k.nx G M N' σ H hf C' (s1.trans s')⟩
  · have hl : i < ds.length := by omega
    rw [List.drop_eq_getElem_cons hl] at hf
    obtain ⟨hM, hf⟩ := hf
    obtain ⟨d1, d2⟩ := drv_at C' hM i
    obtain ⟨g1, g2⟩ := d2 ds[i] (List.getElem?_eq_getElem hl)
    refine .inr ⟨g1, fun σ' H' => ∃ G M N', CC X.K E G M N' σ' H' ∧ Same N1 N' ∧ forGoR p ds ag au (ds.drop (i + 1)) A G M, fun σ' H' ⟨G, M, N', c, s, f⟩ => ⟨ds.length - (i + 1), by omega, G, M, N', c, s, rfl, f⟩, fun x H' hy => ?_⟩
    obtain ⟨rfl, r2⟩ := g2 x H' hy
    refine hg.sg E G M N' σ _ C' x _ r2 _ _ hf fun G3 M3 N3 σ3 H3 h3 C3 s3 => ?_
    have s4 : Same N1 N3 := s'.trans s3
    refine hb.ss E G3 M3 N3 σ3 H3 C3 _ _ ?_ h3 ⟨?_, ?_, ?_, ?_⟩
    · exact m0
    · exact fun G' M' N4 σ' H' q' C4 s5 => ⟨G', M', N4, C4, s4.trans s5, q'⟩
    · exact fun d v G' M' N4 σ' H' q' C4 s5 r5 => k.rt d v G' M' N4 σ' H' q' C4 (s1.trans (s4.trans s5)) r5
    · exact fun G' M' N4 σ' H' q' C4 s5 => k.nx G' M' N4 σ' H' q' C4 (s1.trans (s4.trans s5))
    · exact fun G' M' N4 σ' H' q' C4 s5 => ⟨G', M', N4, C4, s4.trans s5, q'⟩⟩
end
/-! ### comprehensions -/
def lcGoR (p : Addr) (all : List D) (g : aG) (t : aT) (x : aE) (G : Gm) : List D → List D → Mp → (List D → Mp → Prop) → Prop
  | [], acc, M, Q => M p = some (.lst all) ∧ Q acc M
  | d :: ds, acc, M, Q => M p = some (.lst all) ∧ g d G M fun G' M1 => t G' M1 fun b M2 => if b = true then x G' M2 fun y M3 => lcGoR p all g t x G ds (acc ++ [y]) M3 Q else lcGoR p all g t x G ds acc M2 Q
def aLcR (src : aE) (g : aG) (t : aT) (x : aE) (vs : List Nat) : aE := fun G M Q => src G M fun d M1 => ∃ p ds, d = .ref p ∧ M1 p = some (.lst ds) ∧ ds.length ≤ 1000000 ∧ lcGoR p ds g t x (wipeG G vs) ds [] M1 fun acc M2 => Q (.list acc) M2
section
variable {X : Cx} {K : PySem.W.Frag}
theorem se_lcR {tl : TE} {al : aE} {g : TG} {ag : aG} {tt : TT} {at' : aT} {te : TE} {ae : aE} {vs : List Nat} (hl : SE K tl al) (hg : SG K g ag) (ho : OwnM vs g) (ht : ST K tt at') (he : SE K te ae) : SE K (tLc (iSeq K tl) g tt te vs) (aLcR al ag at' ae vs) := by
  intro E G M N σ H C Q Qc q k
  refine hl E G M N σ H C _ _ q fun d v M1 N1 H1 h1 C1 s1 r1 => ?_
  obtain ⟨pl, ds, rfl, hM0, hdl, h1⟩ := h1
  obtain rfl := rel_ref r1
  obtain ⟨xs0, hH0, _⟩ := mlist C1 hM0
  refine ⟨pl, rfl, .inl ⟨⟨xs0, .inl (.inl hH0)⟩, ?_⟩⟩
  intro p hp
  obtain ⟨hN, hM⟩ := C1.cm.none hp
  have h0 : E.H p = none := by
    cases w : E.H p with
    | none => rfl
    | some o =>
      obtain ⟨o', e'⟩ := C1.fr.dom p o w
      rw [e'] at hp; cases hp
  have first : Fr M1 N1 H1 M1 N1 (upd H1 p (.lst [])) := ⟨Same.refl _, fun a u e m => ⟨by rw [upd_ne (ne_of_none e hp)]; exact e, m⟩, fun a u e n => n, fun a u e => ⟨u, by rw [upd_ne (ne_of_none e hp)]; exact e⟩⟩
  have cm1 : CM K M1 N1 (upd H1 p (.lst [])) := ⟨fun a u e => by rw [upd_ne (ne_of_none e hN)]; exact C1.cm.sm _ _ e, fun a c e => by
    obtain ⟨x1, x2⟩ := C1.cm.hm a c e
    exact ⟨x1, x2.mono (Same.refl _) fun o e => by rw [upd_ne (ne_of_none e hp)]; exact e⟩⟩
  refine ⟨fun i m H => ∃ M N acc accV, Fr M1 N1 H1 M N H ∧ CM K M N H ∧ H p = some (.lst accV) ∧ M p = none ∧ N p = none ∧ RelL K N accV acc ∧ acc.length ≤ i ∧ m = ds.length - i ∧ lcGoR pl ds ag at' ae (wipeG G vs) (ds.drop i) acc M (fun acc M2 => Q (.list acc) M2),
    ⟨_, M1, N1, [], [], first, cm1, upd_same, hM, hN, .nil, Nat.le_refl _, rfl, h1⟩, ?_⟩
  rintro i m H ⟨M, N, acc, accV, fr, cm, hH, hMp, hNp, ra, hai, rfl, hl⟩
  have C0 : CC K ⟨M, N, H⟩ (wipeG G vs) M N (wipe σ vs) H := ⟨.refl, cm, ((C1.sl.mono fr.nn).wipe vs)⟩
  by_cases hlt : ds.length ≤ i
  · rw [List.drop_eq_nil_of_le hlt] at hl
    obtain ⟨hMl, hl⟩ := hl
    obtain ⟨d1, d2⟩ := drv_at C0 hMl i
    refine .inl ⟨d1 hlt, ?_⟩
    have C' : CC K E G M N σ H := ⟨C1.fr.trans fr, cm, C1.sl.mono fr.nn⟩
    have e : mdel M p = M := by
      funext b
      unfold mdel
      split
      · rename_i h; subst h; exact hMp.symm
      · rfl
    have C2 := C'.freeze hNp hH h0
    rw [e] at C2
    exact (k.from ((s1.trans fr.nn).trans (same_new hNp))).at C2 hl (.list upd_same (ra.mono (same_new hNp)))
  · have hlt : i < ds.length := by omega
    rw [List.drop_eq_getElem_cons hlt] at hl
    obtain ⟨hMl, hl⟩ := hl
    obtain ⟨d1, d2⟩ := drv_at C0 hMl i
    obtain ⟨g1, g2⟩ := d2 ds[i] (List.getElem?_eq_getElem hlt)
    refine .inr ⟨g1, fun H' => ∃ M N acc accV, Fr M1 N1 H1 M N H' ∧ CM K M N H' ∧ H' p = some (.lst accV) ∧ M p = none ∧ N p = none ∧ RelL K N accV acc ∧ acc.length ≤ i + 1 ∧ lcGoR pl ds ag at' ae (wipeG G vs) (ds.drop (i + 1)) acc M (fun acc M2 => Q (.list acc) M2),
      fun H' ⟨M, N, acc, accV, x1, x2, x3, x4, x5, x6, x7, x8⟩ => ⟨ds.length - (i + 1), by omega, M, N, acc, accV, x1, x2, x3, x4, x5, x6, x7, rfl, x8⟩, fun x H' hy => ?_⟩
    obtain ⟨rfl, r2⟩ := g2 x H' hy
    have go : g x (wipe σ vs) H' fun σ2 H2 => tt σ2 H2 fun b H3 => if b = true then te σ2 H3 fun y H4 => ∃ acc, H4 p = some (.lst acc) ∧ acc.length < sizeLine ∧
        (∃ M N acc' accV, Fr M1 N1 H1 M N (upd H4 p (.lst (acc ++ [y]))) ∧ CM K M N (upd H4 p (.lst (acc ++ [y]))) ∧ (upd H4 p (.lst (acc ++ [y]))) p = some (.lst accV) ∧ M p = none ∧ N p = none ∧ RelL K N accV acc' ∧ acc'.length ≤ i + 1 ∧ lcGoR pl ds ag at' ae (wipeG G vs) (ds.drop (i + 1)) acc' M (fun acc M2 => Q (.list acc) M2))
        else ∃ M N acc accV, Fr M1 N1 H1 M N H3 ∧ CM K M N H3 ∧ H3 p = some (.lst accV) ∧ M p = none ∧ N p = none ∧ RelL K N accV acc ∧ acc.length ≤ i + 1 ∧ lcGoR pl ds ag at' ae (wipeG G vs) (ds.drop (i + 1)) acc M (fun acc M2 => Q (.list acc) M2) := by
      refine hg _ _ M N _ H' C0 x _ r2 _ _ hl fun G3 M3 N3 σ3 H3 h3 C3 s3 => ?_
      refine ht _ _ M3 N3 σ3 H3 C3 _ _ h3 fun b M4 N4 H4 h4 C4 s4 => ?_
      cases b with
      | false =>
        rw [if_neg Bool.false_ne_true] at h4 ⊢
        obtain ⟨y1, y2⟩ := C4.fr.keep p _ hH hMp
        exact ⟨M4, N4, acc, accV, fr.trans C4.fr, C4.cm, y1, y2, C4.fr.new p _ hH hNp, ra.mono C4.fr.nn, by omega, h4⟩
      | true =>
        rw [if_pos rfl] at h4 ⊢
        refine he _ _ M4 N4 σ3 H4 C4 _ _ h4 fun dy y M5 N5 H5 h5 C5 s5 r5 => ?_
        obtain ⟨y1, y2⟩ := C5.fr.keep p _ hH hMp
        have y3 := C5.fr.new p _ hH hNp
        refine ⟨accV, y1, by rw [ra.length]; exact big_lt (by omega), M5, N5, acc ++ [dy], accV ++ [y], ?_, ?_, upd_same, y2, y3, (ra.mono C5.fr.nn).append (.cons r5 .nil), by simp; omega, h5⟩
        · have f5 := fr.trans C5.fr
          exact ⟨f5.nn, fun a u e m => by
            obtain ⟨z1, z2⟩ := f5.keep a u e m
            exact ⟨by rw [upd_ne (ne_of_none e hp)]; exact z1, z2⟩, f5.new, fun a u e => by
            obtain ⟨o, z⟩ := f5.dom a u e
            exact ⟨o, by rw [upd_ne (ne_of_none e hp)]; exact z⟩⟩
        · exact ⟨fun a u e => by rw [upd_ne (ne_of_none e y3)]; exact C5.cm.sm _ _ e, fun a c e => by
            obtain ⟨z1, z2⟩ := C5.cm.hm a c e
            have qn : a ≠ p := fun z => by subst z; rw [y2] at e; cases e
            exact ⟨z1, z2.mono (Same.refl _) fun o e => by rw [upd_ne qn]; exact e⟩⟩
    refine ho.mono x _ H' _ _ (fun σ2 H2 ⟨e2, q2⟩ => ?_) (ho.own x _ H' _ go)
    exact ⟨by rw [e2, wipe_wipe], q2⟩
variable {elt tg iter : Expr} {ifs : List Expr} {scope : Scope} {own : List (Str × Nat)} {pos : Pos} {tl : TE} {al : aE}
theorem de_lcR {g' : BV TG} {ag' : BV aG} {tt' : BV TT} {at'' : BV aT} {te' : BV TE} {ae' : BV aE} (hc : X.calm = true) (hN : X.N.Nodup) (hl : DE X iter tl al) (ok : BlkOk X.N X.env.scope scope own)
    (hg : ∀ (s : Shared) (H : Hp) (C : Addr) (cl : List (Str × Addr)) (fp : List Addr), DG (X.blk s H scope (compEnvC scope cl C X.env) fp) tg (g' s H C cl fp) (ag' s H C cl fp)) (ht : ∀ (s : Shared) (H : Hp) (C : Addr) (cl : List (Str × Addr)) (fp : List Addr), DTs (X.blk s H scope (compEnvC scope cl C X.env) fp) ifs (tt' s H C cl fp) (at'' s H C cl fp))
    (he : ∀ (s : Shared) (H : Hp) (C : Addr) (cl : List (Str × Addr)) (fp : List Addr), DE (X.blk s H scope (compEnvC scope cl C X.env) fp) elt (te' s H C cl fp) (ae' s H C cl fp)) (ho : OwnM (own.map (·.2)) (g' X.s_0 X.H_0 0 [] [])) (hs : ∀ x, foldedSetIterable iter X.env x = pure x := by intro _; rfl)
    (eg : ∀ s H C cl fp, g' s H C cl fp = g' X.s_0 X.H_0 0 [] [] := by intro _ _ _ _ _; rfl) (et : ∀ s H C cl fp, tt' s H C cl fp = tt' X.s_0 X.H_0 0 [] [] := by intro _ _ _ _ _; rfl) (ee : ∀ s H C cl fp, te' s H C cl fp = te' X.s_0 X.H_0 0 [] [] := by intro _ _ _ _ _; rfl) :
    DE X (.ListComp elt [⟨tg, iter, ifs, 0⟩] scope pos) (tLc (iSeq X.K tl) (g' X.s_0 X.H_0 0 [] []) (tt' X.s_0 X.H_0 0 [] []) (te' X.s_0 X.H_0 0 [] []) (own.map (·.2))) (aLcR al (ag' X.s_0 X.H_0 0 [] []) (at'' X.s_0 X.H_0 0 [] []) (ae' X.s_0 X.H_0 0 [] []) (own.map (·.2))) :=
  ⟨pe_lc hc hN (pi_seq hl.pe) ok (fun s H C cl fp => by rw [← eg s H C cl fp]; exact (hg s H C cl fp).pg) (fun s H C cl fp => by rw [← et s H C cl fp]; exact (ht s H C cl fp).pt) (fun s H C cl fp => by rw [← ee s H C cl fp]; exact (he s H C cl fp).pe) hs, se_lcR hl.se (hg X.s_0 X.H_0 0 [] []).sg ho (ht X.s_0 X.H_0 0 [] []).st (he X.s_0 X.H_0 0 [] []).se⟩
end
section
variable {p : Addr} {ds : List D} {g : aG} {t : aS} {m0 : Mp} {nx : Gm → Mp → Prop} {rt : QD} {bk ct : Gm → Mp → Prop} {G : Gm} {M : Mp}
theorem go_forRI (I : Nat → Gm → Mp → Prop) (h0 : I 0 G M) (hp : ∀ i G M, I i G M → M p = some (.lst ds)) (hs : ∀ i d G M nx', ds[i]? = some d → I i G M → (∀ G M, I (i + 1) G M → nx' G M) → g d G M fun G' M' => t ⟨m0, nx', rt, nx, nx'⟩ G' M') (hd : ∀ G M, I ds.length G M → nx G M) : forGoR p ds g t ds ⟨m0, nx, rt, bk, ct⟩ G M := by
  have main : ∀ (r : List D) (i : Nat) (G : Gm) (M : Mp), i ≤ ds.length → ds.drop i = r → I i G M → forGoR p ds g t r ⟨m0, nx, rt, bk, ct⟩ G M := by
    intro r
    induction r with
    | nil =>
      intro i G M hl e hi
      have h1 : ds.length ≤ i := List.drop_eq_nil_iff.mp e
      have q : i = ds.length := by omega
      subst q
      exact ⟨hp _ _ _ hi, hd G M hi⟩
    | cons d r ih =>
      intro i G M hl e hi
      have hlt : i < ds.length := by
        by_cases q : i < ds.length
        · exact q
        · rw [List.drop_eq_nil_of_le (by omega)] at e; cases e
      rw [List.drop_eq_getElem_cons hlt] at e
      obtain ⟨rfl, e2⟩ := List.cons.inj e
      exact ⟨hp _ _ _ hi, hs i _ G M _ (List.getElem?_eq_getElem hlt) hi fun G' M' h => ih (i + 1) G' M' hlt e2 h⟩
  exact main ds 0 G M (Nat.zero_le _) rfl h0
theorem go_forR {src : aE} (h : src G M fun d M1 => ∃ p ds, d = .ref p ∧ M1 p = some (.lst ds) ∧ forGoR p ds g t ds ⟨m0, nx, rt, bk, ct⟩ G M1) : asForR src g t ⟨m0, nx, rt, bk, ct⟩ G M := h
end
section
variable {p : Addr} {ds : List D} {g : aG} {t : aT} {x : aE} {G : Gm} {M : Mp} {QA : List D → Mp → Prop} {Q : QD}
theorem go_lcRI (I : Nat → List D → Mp → Prop) (h0 : I 0 [] M) (hp : ∀ i acc M, I i acc M → M p = some (.lst ds)) (hs : ∀ i d acc M (KY : D → Mp → Prop) (KN : Mp → Prop), ds[i]? = some d → I i acc M → (∀ y M, I (i + 1) (acc ++ [y]) M → KY y M) → (∀ M, I (i + 1) acc M → KN M) →
    g d G M fun G' M1 => t G' M1 fun b M2 => if b = true then x G' M2 KY else KN M2) (hd : ∀ acc M, I ds.length acc M → QA acc M) : lcGoR p ds g t x G ds [] M QA := by
  have main : ∀ (r : List D) (i : Nat) (acc : List D) (M : Mp), i ≤ ds.length → ds.drop i = r → I i acc M → lcGoR p ds g t x G r acc M QA := by
    intro r
    induction r with
    | nil =>
      intro i acc M hl e hi
      have h1 : ds.length ≤ i := List.drop_eq_nil_iff.mp e
      have q : i = ds.length := by omega
      subst q
      exact ⟨hp _ _ _ hi, hd acc M hi⟩
    | cons d r ih =>
      intro i acc M hl e hi
      have hlt : i < ds.length := by
        by_cases q : i < ds.length
        · exact q
        · rw [List.drop_eq_nil_of_le (by omega)] at e; cases e
      rw [List.drop_eq_getElem_cons hlt] at e
      obtain ⟨rfl, e2⟩ := List.cons.inj e
      exact ⟨hp _ _ _ hi, hs i _ acc M _ _ (List.getElem?_eq_getElem hlt) hi (fun y M' h => ih (i + 1) _ M' hlt e2 h) fun M' h => ih (i + 1) acc M' hlt e2 h⟩
  exact main ds 0 [] M (Nat.zero_le _) rfl h0
theorem go_lcRs {src : aE} {vs : List Nat} {G1 : Gm} (e : wipeG G vs = G1) (h : src G M fun d M1 => ∃ p ds, d = .ref p ∧ M1 p = some (.lst ds) ∧ ds.length ≤ 1000000 ∧ lcGoR p ds g t x G1 ds [] M1 fun acc M2 => Q (.list acc) M2) : aLcR src g t x vs G M Q := by subst e; exact h
end
end DL

set_option Elab.async false
set_option linter.all false
set_option maxRecDepth 100000
/-! DX16: == and != by an own __eq__, whatever stands on the other side. -/
namespace PySem.W
open PySem PySem.Calls PyProof.Rows Builtin
section
variable {prog : Program} {w : World} {A : Around} {E : Value → Shared → Prop} {s : Shared} {K : Frag} {x C L f : Addr} {h₀ : Heap} {m : Str → Option Value} {ox : Obj} {od : Option Obj} {b tb : Value}
theorem ifBound_objNe {M : Model} {args : List Value} {Q : Option Value → Shared → Prop} (X : K.In s.heap) (I : InstAt s.heap x ox C od) (hs : findIn K (.ref C) "__ne__" = some (some (.builtin "object.__ne__")))
    (h : wpAny M A (call (.builtin "object.__ne__") (.ref x :: args)) (fun v => Q (some v)) E s) : wpAny M A (callSpecialIfBound? (.ref x) "__ne__" args) Q E s := by
  simp only [callSpecialIfBound?, bindSpecialIfBound?]
  refine wpAny_holding (wpAny_bind (wpAny_bind (wpAny_bind (I.type.here ((looks_findIn X hs).here ?_)))))
  refine wpAny_bind (wpAny_askSetting (wpAny_ite ?_))
  have fin : wpAny M A (call (.builtin "object.__ne__") ([.ref x] ++ args) >>= fun v => pure (some v)) Q E s := wpAny_bind (wpAny_mono h (fun v s' h' => wpAny_pure h') fun _ _ h' => h')
  split
  · exact wpAny_bind (wpAny_of_eq (PySem.F.cmp_object.ne.bind _) (wpAny_pure (by exact fin)))
  · exact wpAny_tryCatch (wpAny_bind (wpAny_of_eq (PySem.F.cmp_object.ne.bind _) (wpAny_pure (by exact fin))))
theorem objNe_own (hu : A.units < cLine) (X : K.In s.heap) (I : InstAt s.heap x ox C od) (hs : findIn K (.ref C) "__eq__" = some (some (.ref f))) (hf : isFn K (.ref f) = true) {Q : Fin → Shared → Prop}
    (h : wpAny (model prog w) A (call (.ref f) [.ref x, b]) (fun v s' => ∃ k, v = .bool k ∧ Q (.done (.ret (.bool (!k)))) s') E s) : wpAny (model prog w) A (Builtin.«object.__ne__» ⟨[.ref x, b], []⟩) Q E s := by
  unfold Builtin.«object.__ne__»
  repeat (first
    | with_reducible refine wpAny_cRoomFor hu ?_
    | (refine wpAny_bind (m := callSpecialIfBound? (.ref x) (Str.ofString "__eq__") [b]) (ifBound_K X I hs hf (wpAny_mono h (fun r s' hr => by
          obtain ⟨k, rfl, hq⟩ := hr
          repeat (first | exact hq | exact wpAny_pure hq | exact wpAny_truthy_bool hq | (refine wpAny_bind (m := truthy (.bool _)) (wpAny_truthy_bool ?_)) | wp_step)) fun _ _ e => e)))
    | wp_step)
theorem ne_own {Q : Value → Shared → Prop} (hu : A.units + 1 < cLine) (F : Fr h₀ L s.heap m) (X₀ : K.In h₀) (I : InstAt s.heap x ox C od) (hb : Looks (model prog w) s.heap (typeOf b) tb) (hn : notFirst K C tb = true) (hm : mroIn K C (.type "object") = some true)
    (hs : findIn K (.ref C) "__eq__" = some (some (.ref f))) (hf : isFn K (.ref f) = true) (hne : findIn K (.ref C) "__ne__" = some (some (.builtin "object.__ne__")))
    (h : wpAny (model prog w) A.in1 (call (.ref f) [.ref x, b]) (fun v s' => ∃ k, v = .bool k ∧ Q (.bool (!k)) s') E s) : wpAny (model prog w) A (richCompare .NotEq (.ref x) b) Q E s := by
  have X := X₀.keeps F.keep
  have one : wpAny (model prog w) A (tryCompare (.ref x) (cmpInfo .NotEq).2.1 b) (fun r s' => ∃ v, r = some v ∧ Q v s') E s := by
    unfold tryCompare
    refine wpAny_bind (ifBound_objNe X I hne (wpAny_call (codeAny_call_builtin PySem.F.cmp_object.ne.plain PySem.F.cmpEntry_ne (check_slot PySem.F.cmpKind_ne PySem.F.cmpSplit_ne (I.type.andThen (looks_mroIn X hm)) (PySem.F.cmpArgs_ne _ _)
      (objNe_own (A := A.in1) hu X I hs hf (wpAny_mono h (fun v s' hv => ?_) fun _ _ e => e))))))
    obtain ⟨k, rfl, hq⟩ := hv
    first
      | exact ⟨k, rfl, wpAny_pure ⟨_, rfl, hq⟩⟩
      | exact ⟨k, rfl, _, rfl, hq⟩
  unfold richCompare
  simp only [oneThing_ref]
  refine wpAny_holding (wpAny_bind (wpAny_cRoomFor (Nat.lt_of_succ_lt hu) ?_))
  refine wpAny_bind (I.type.here (wpAny_bind (hb.here ?_)))
  split
  · rename_i q
    have e : subIn K tb (.ref C) = some false := by
      rcases Bool.or_eq_true_iff.mp hn with e | e
      · rw [beq_iff_eq.mp e] at q; simp at q
      · exact beq_iff_eq.mp e
    refine wpAny_bind ((looks_subIn X e).here ?_)
    simp only [Bool.false_eq_true, if_false]
    refine wpAny_bind (wpAny_mono one (fun r s' z => ?_) fun _ _ e => e)
    obtain ⟨v, rfl, hq⟩ := z
    exact wpAny_pure hq
  · refine wpAny_bind (wpAny_pure ?_)
    simp only [Bool.false_eq_true, if_false]
    refine wpAny_bind (wpAny_mono one (fun r s' z => ?_) fun _ _ e => e)
    obtain ⟨v, rfl, hq⟩ := z
    exact wpAny_pure hq
/-- b == x, b of a built-in type that declines -/
theorem eq_decl {Q : Value → Shared → Prop} {T : String} (hu : A.units < cLine) (F : Fr h₀ L s.heap m) (X₀ : K.In h₀) (I : InstAt s.heap x ox C od) (hT : s.TypeIs b T) (hsub : subIn K (.ref C) (.type T) = some false)
    (hdec : ∀ R : Option Value → Shared → Prop, R none s → wpAny (model prog w) A (tryCompare b "__eq__" (.ref x)) R E s)
    (hs : findIn K (.ref C) "__eq__" = some (some (.ref f))) (hf : isFn K (.ref f) = true)
    (h : wpAny (model prog w) A (call (.ref f) [.ref x, b]) (CmpBack Q) E s) : wpAny (model prog w) A (richCompare .Eq b (.ref x)) Q E s := by
  have X := X₀.keeps F.keep
  have one : wpAny (model prog w) A (tryCompare (.ref x) "__eq__" b) (fun r s' => ∃ v, r = some v ∧ Q v s') E s := by
    unfold tryCompare
    refine wpAny_bind (ifBound_K X I hs hf (wpAny_mono h (fun v s' hv => ?_) fun _ _ e => e))
    cases v <;> first | exact hv.elim | exact wpAny_pure ⟨_, rfl, hv⟩
  simp only [richCompare, cmpInfo_Eq, hT.oneThing_none]
  refine wpAny_holding (wpAny_bind (wpAny_cRoomFor hu ?_))
  refine wpAny_bind (wpAny_typeOf hT ?_)
  refine wpAny_bind (I.type.here ?_)
  split
  · refine wpAny_bind ((looks_subIn X hsub).here ?_)
    simp only [Bool.false_eq_true, if_false, Bool.not_false, if_true]
    refine wpAny_bind (m := tryCompare b _ (.ref x)) (hdec _ ?_)
    refine wpAny_bind (m := tryCompare (.ref x) _ b) (wpAny_mono one (fun r s1 z => ?_) fun _ _ e => e)
    obtain ⟨v, rfl, hq⟩ := z
    exact wpAny_pure hq
  · rename_i q
    exact absurd (by simp) q
theorem dec_none {R : Option Value → Shared → Prop} (h : R none s) : wpAny (model prog w) A (tryCompare .none "__eq__" (.ref x)) R E s :=
  wpAny_tryCompare_declines (show s.TypeIs .none "NoneType" from rfl) PySem.F.slot_NoneType_eq_refl (call_gives PySem.F.slot_NoneType_eq_refl rfl PySem.F.entry_NoneType_eq (PySem.F.args_NoneType_eq_2 _ _) (PySem.SeqAt.NoneType___eq___none_ref_0 x) ⟨rfl, h⟩)
open PySem.SeqAt AutoSeq1 MeetsSeq in
theorem str_decl (a : Str) (t : Tok) (x C dx : Addr) : Meets (Builtin.«str.__eq__» ⟨[.str a t, .ref x], []⟩) (fun _ R s => s.heap.get? x = some (instObj C dx) ∧ R (.ok (.ret .notImplemented)) s) :=
  .of_wp fun prog w A R s h => by obtain ⟨hp, g, d, tk, os⟩ := s; obtain ⟨hl, h⟩ := h; unfold instObj at hl; wp_walk using wpAny_loadPart' hl, wpAny_load hl; exact ⟨_, rfl, h⟩
open PySem.SeqAt AutoSeq1 MeetsSeq in
theorem int_decl (a : Int) (t : Tok) (x C dx : Addr) : Meets (Builtin.«int.__eq__» ⟨[.int a t, .ref x], []⟩) (fun _ R s => s.heap.get? x = some (instObj C dx) ∧ R (.ok (.ret .notImplemented)) s) :=
  .of_wp fun prog w A R s h => by obtain ⟨hp, g, d, tk, os⟩ := s; obtain ⟨hl, h⟩ := h; unfold instObj at hl; wp_walk using wpAny_loadPart' hl, wpAny_load hl; exact ⟨_, rfl, h⟩
theorem inst_no {M : Model} {h : Heap} {T : String} {o : Obj} (X : K.In h) (hx : h.get? x = some o) (hc : o.cls = .ref C) (hsub : subIn K (.ref C) (.type T) = some false) {Q : Bool → Shared → Prop} {g d tk os} (hq : Q false ⟨h, g, d, tk, os⟩) : wpAny M A (isInstance (.ref x) (.type T)) Q E ⟨h, g, d, tk, os⟩ := by
  simp only [isInstance]
  refine wpAny_bind (wpAny_typeOf_ref (o := o) hx ?_)
  rw [hc]
  exact (looks_subIn X hsub).here (s := ⟨h, g, d, tk, os⟩) hq
open PySem.SeqAt AutoSeq1 MeetsSeq in
theorem tup_decl (l x C : Addr) (o : Obj) (hc : o.cls = .ref C) (hsub : subIn K (.ref C) (.type "tuple") = some false) : Meets (Builtin.«tuple.__eq__» ⟨[.ref l, .ref x], []⟩) (fun _ R s => K.In s.heap ∧ s.heap.get? x = some o ∧ R (.ok (.ret .notImplemented)) s) :=
  .of_wp fun prog w A R s h => by obtain ⟨hp, g, d, tk, os⟩ := s; obtain ⟨X, hl, h⟩ := h; wp_walk using inst_no X hl hc hsub; exact ⟨_, rfl, h⟩
end
end PySem.W
namespace DL
open PySem PySem.Spec PyProof.Rows L2
/-- a value's type: of a built-in kind, or an own instance -/
def TyW (K : PySem.W.Frag) (H : Hp) (y : V) (tb : Value) : Prop := TyX K H y tb ∨ ∃ (b C dx : Addr) (fs : List (Str × V)), y = .ref b ∧ tb = .ref C ∧ H b = some (.ins C dx fs)
section
variable {X : Cx} {CX : CXT} {C f : Addr} {fd : FuncData} {ps : List Str} {n : Nat} {S : Sp} {E : XK}
theorem tyw_looks {pins : List (Addr × Obj)} {σ : L2.St} {H : Hp} {s : Shared} {y : V} {u tb : Value} (I : Inv X pins σ H s) (ry : RelV y u) (h : TyW X.K H y tb) : PySem.W.Looks (model X.prog X.w) s.heap (typeOf u) tb := by
  rcases h with h | ⟨b, C, dx, fs, rfl, rfl, h⟩
  · obtain ⟨P, kx, hp, _⟩ := kit_of I ry h
    exact kx.ty _ _ I.kIn hp
  · obtain rfl : u = Value.ref b := ry
    obtain ⟨mA, J, _⟩ := ins_get I.hok h
    obtain ⟨od, J, _⟩ := J.look
    exact J.type
def rEqL (C : Addr) (K : PySem.W.Frag) (S : Sp) (E : XK) : R2 := fun x y H Q => ∃ a dx fs tb, x = V.ref a ∧ H a = some (.ins C dx fs) ∧ TyW K H y tb ∧ PySem.W.notFirst K C tb = true ∧ S [.ref a, y] H (fun v H' => (∃ k, v = V.bl k) ∧ Q v H') E
theorem op_eqL (hm : Meth X.K C "__eq__" f) (F : FnOk X.prog X.w X.K X.mg X.base CX n f fd ps S) (hr : Room n X.A) (hb : Binds X.K fd ps []) (hx : Passes CX X E) : OpR X (compareOp .Eq) (rEqL C X.K S E) := by
  intro pins s σ H x y v u Q I rx ry hq
  obtain ⟨a, dx, fs, tb, rfl, ha, ht, hn, hsp⟩ := hq
  obtain rfl : v = Value.ref a := rx
  show wpAny (model X.prog X.w) X.A (richCompare .Eq (.ref a) u) (EP X pins σ Q) X.xe s
  have hl := tyw_looks I ry ht
  obtain ⟨mA, J, _⟩ := ins_get I.hok ha
  obtain ⟨od, J, _⟩ := J.look
  obtain ⟨m, hF⟩ := I.fr
  refine PySem.W.cmp_K (op := .Eq) (tb := tb) hr.units0 hF I.ok.mod.kin J hl hn hm.at_ hm.fn ?_
  refine thn (run_fnA F hr rfl hb hx I (us := [.ref a, u]) (vs := [.ref a, y]) (.cons rfl (.cons ry .nil)) hsp) fun r s' z => ?_
  obtain ⟨x, H', I', rz, ⟨k, rfl⟩, q⟩ := z
  cases rz
  exact ⟨.bl k, H', I', rfl, q⟩
def rNeL (C : Addr) (K : PySem.W.Frag) (S : Sp) (E : XK) : R2 := fun x y H Q => ∃ a dx fs tb, x = V.ref a ∧ H a = some (.ins C dx fs) ∧ TyW K H y tb ∧ PySem.W.notFirst K C tb = true ∧ S [.ref a, y] H (fun v H' => ∃ k, v = V.bl k ∧ Q (.bl (!k)) H') E
theorem op_neL (hm : Meth X.K C "__eq__" f) (hne : PySem.W.findIn X.K (.ref C) "__ne__" = some (some (.builtin "object.__ne__"))) (ho : PySem.W.mroIn X.K C (.type "object") = some true) (F : FnOk X.prog X.w X.K X.mg X.base CX n f fd ps S) (hr : Room (n + 1) X.A) (hb : Binds X.K fd ps []) (hx : Passes CX X E) :
    OpR X (compareOp .NotEq) (rNeL C X.K S E) := by
  intro pins s σ H x y v u Q I rx ry hq
  obtain ⟨a, dx, fs, tb, rfl, ha, ht, hn, hsp⟩ := hq
  obtain rfl : v = Value.ref a := rx
  show wpAny (model X.prog X.w) X.A (richCompare .NotEq (.ref a) u) (EP X pins σ Q) X.xe s
  have hl := tyw_looks I ry ht
  obtain ⟨mA, J, _⟩ := ins_get I.hok ha
  obtain ⟨od, J, _⟩ := J.look
  obtain ⟨m, hF⟩ := I.fr
  refine PySem.W.ne_own (tb := tb) hr.in1.units0 hF I.ok.mod.kin J hl hn ho hm.at_ hm.fn hne ?_
  refine thn (run_fnA F hr.in1 rfl hb hx I (us := [.ref a, u]) (vs := [.ref a, y]) (.cons rfl (.cons ry .nil)) hsp) fun r s' z => ?_
  obtain ⟨x, H', I', rz, k, rfl, q⟩ := z
  cases rz
  exact ⟨k, rfl, .bl (!k), H', I', rfl, q⟩
def DecV (K : PySem.W.Frag) (H : Hp) (x : V) : Prop := x = .non ∨ (∃ z, x = .str z) ∨ (∃ i, x = .int i) ∨ ∃ t xs, x = .ref t ∧ SqT K H t xs
def rEqR (C : Addr) (K : PySem.W.Frag) (S : Sp) (E : XK) : R2 := fun x y H Q => ∃ a dx fs, y = V.ref a ∧ H a = some (.ins C dx fs) ∧ DecV K H x ∧ S [.ref a, x] H (fun v H' => (∃ k, v = V.bl k) ∧ Q v H') E
theorem op_eqR (hm : Meth X.K C "__eq__" f) (hsub : ∀ T ∈ ["NoneType", "str", "int", "tuple"], PySem.W.subIn X.K (.ref C) (.type T) = some false) (F : FnOk X.prog X.w X.K X.mg X.base CX n f fd ps S) (hr : Room n X.A) (hb : Binds X.K fd ps []) (hx : Passes CX X E) : OpR X (compareOp .Eq) (rEqR C X.K S E) := by
  intro pins s σ H x y v u Q I rx ry hq
  obtain ⟨a, dx, fs, rfl, ha, hd, hsp⟩ := hq
  obtain rfl : u = Value.ref a := ry
  show wpAny (model X.prog X.w) X.A (richCompare .Eq v (.ref a)) (EP X pins σ Q) X.xe s
  obtain ⟨mA, J0, _⟩ := ins_get I.hok ha
  obtain ⟨od, J, _⟩ := J0.look
  obtain ⟨m, hF⟩ := I.fr
  have fin : wpAny (model X.prog X.w) X.A (call (.ref f) [.ref a, v]) (PySem.W.CmpBack (EP X pins σ Q)) X.xe s := by
    refine thn (run_fnA F hr rfl hb hx I (us := [.ref a, v]) (vs := [.ref a, x]) (.cons rfl (.cons rx .nil)) hsp) fun r s' z => ?_
    obtain ⟨x, H', I', rz, ⟨k, rfl⟩, q⟩ := z
    cases rz
    exact ⟨.bl k, H', I', rfl, q⟩
  rcases hd with rfl | ⟨z, rfl⟩ | ⟨i, rfl⟩ | ⟨t, xs, rfl, ht⟩
  · obtain rfl : v = Value.none := rx
    exact PySem.W.eq_decl (T := "NoneType") hr.units0 hF I.ok.mod.kin J rfl (hsub _ (by decide)) (fun R h => PySem.W.dec_none h) hm.at_ hm.fn fin
  · obtain ⟨tk, rfl⟩ := (show ∃ t, v = Value.str z t from rx)
    refine PySem.W.eq_decl (T := "str") hr.units0 hF I.ok.mod.kin J rfl (hsub _ (by decide)) (fun R h => ?_) hm.at_ hm.fn fin
    exact wpAny_tryCompare_declines (T := "str") rfl PySem.F.slot_str_eq (call_meets PySem.F.slot_str_eq rfl PySem.F.entry_str_eq (PySem.F.args_str_eq_2 _ _) (PySem.W.str_decl z tk a C dx) ⟨J0.obj, rfl, h⟩)
  · obtain ⟨tk, rfl⟩ := (show ∃ t, v = Value.int i t from rx)
    refine PySem.W.eq_decl (T := "int") hr.units0 hF I.ok.mod.kin J rfl (hsub _ (by decide)) (fun R h => ?_) hm.at_ hm.fn fin
    exact wpAny_tryCompare_declines (T := "int") rfl PySem.F.slot_int_eq (call_meets PySem.F.slot_int_eq rfl PySem.F.entry_int_eq (PySem.F.args_int_eq_2 _ _) (PySem.W.int_decl i tk a C dx) ⟨J0.obj, rfl, h⟩)
  · obtain rfl : v = Value.ref t := rx
    obtain ⟨its, _, ⟨o, ho, hc, k, hd⟩, _⟩ := I.tuple ht
    refine PySem.W.eq_decl (T := "tuple") hr.units0 hF I.ok.mod.kin J ⟨o, ho, hc⟩ (hsub _ (by decide)) (fun R h => ?_) hm.at_ hm.fn fin
    exact wpAny_tryCompare_declines (T := "tuple") ⟨o, ho, hc⟩ PySem.F.slot_tuple_eq (call_meets PySem.F.slot_tuple_eq ⟨o, ho, hc⟩ PySem.F.entry_tuple_eq (PySem.F.args_tuple_eq_2 _ _) (PySem.W.tup_decl t a C _ rfl (hsub _ (by decide))) ⟨I.kIn, J0.obj, rfl, h⟩)
end
/-! over data -/
def tyB (M : Mp) (d : D) : Option Value := match d with
  | .obj C _ => some (.ref C)
  | d => (tyD M d).map Value.type
section
variable {K : PySem.W.Frag} {C : Addr} {n : Nat} {sp : aSp} {E : XK}
theorem tyB_rel {M : Mp} {N H : Hp} {v : V} {d : D} {tb : Value} (c : CM K M N H) (r : RelD K N v d) (h : tyB M d = some tb) : TyW K H v tb := by
  unfold tyB at h
  split at h
  · cases h
    obtain ⟨a, dx, xs, rfl, h1, _⟩ := rel_obj r
    exact .inr ⟨_, _, _, _, rfl, rfl, c.sm _ _ h1⟩
  · obtain ⟨t, e, rfl⟩ := Option.map_eq_some_iff.mp h
    exact .inl (ty_rel c r e).1
def fEqL (K : PySem.W.Frag) (C : Addr) (n : Nat) (sp : aSp) : V2 := fun d e M Q => ∃ fs tb, d = .obj C fs ∧ tyB M e = some tb ∧ PySem.W.notFirst K C tb = true ∧ n = 2 ∧ sp [d, e] M (fun r M' => ∃ k, r = .bl k ∧ Q (.bl k) M')
def fNeL (K : PySem.W.Frag) (C : Addr) (n : Nat) (sp : aSp) : V2 := fun d e M Q => ∃ fs tb, d = .obj C fs ∧ tyB M e = some tb ∧ PySem.W.notFirst K C tb = true ∧ n = 2 ∧ sp [d, e] M (fun r M' => ∃ k, r = .bl k ∧ Q (.bl (!k)) M')
def decD : D → Bool
  | .non => true | .str _ => true | .int _ => true | .tup _ => true | .rot _ => true
  | _ => false
def fEqR (C : Addr) (n : Nat) (sp : aSp) : V2 := fun d e M Q => ∃ fs, e = .obj C fs ∧ decD d = true ∧ n = 2 ∧ sp [e, d] M (fun r M' => ∃ k, r = .bl k ∧ Q (.bl k) M')
theorem s2_eqL : S2 K (rEqL C K (lift K n sp) E) (fEqL K C n sp) := by
  intro E0 G M N σ H C1 x y d e rx ry Q Qc h k
  obtain ⟨fs, tb, rfl, ht, hn, rfl, h⟩ := h
  cases rx with
  | obj h1 r1 =>
    refine ⟨_, _, _, tb, rfl, C1.cm.sm _ _ h1, tyB_rel C1.cm ry ht, hn, _, M, N, _, rfl, C1.cm, .cons (.obj h1 r1) (.cons ry .nil), h, fun d v M' N' H' q' fr cm r => ?_⟩
    obtain ⟨kk, rfl, q'⟩ := q'
    cases r
    exact ⟨⟨kk, rfl⟩, k _ _ M' N' H' q' (C1.step fr cm) fr.nn (.bl _)⟩
theorem s2_neL : S2 K (rNeL C K (lift K n sp) E) (fNeL K C n sp) := by
  intro E0 G M N σ H C1 x y d e rx ry Q Qc h k
  obtain ⟨fs, tb, rfl, ht, hn, rfl, h⟩ := h
  cases rx with
  | obj h1 r1 =>
    refine ⟨_, _, _, tb, rfl, C1.cm.sm _ _ h1, tyB_rel C1.cm ry ht, hn, _, M, N, _, rfl, C1.cm, .cons (.obj h1 r1) (.cons ry .nil), h, fun d v M' N' H' q' fr cm r => ?_⟩
    obtain ⟨kk, rfl, q'⟩ := q'
    cases r
    exact ⟨kk, rfl, k _ _ M' N' H' q' (C1.step fr cm) fr.nn (.bl _)⟩
theorem s2_eqR : S2 K (rEqR C K (lift K n sp) E) (fEqR C n sp) := by
  intro E0 G M N σ H C1 x y d e rx ry Q Qc h k
  obtain ⟨fs, rfl, hd, rfl, h⟩ := h
  have dv : DecV K H x := by
    cases rx <;> simp [decD] at hd
    case non => exact .inl rfl
    case int i => exact .inr (.inr (.inl ⟨i, rfl⟩))
    case str z => exact .inr (.inl ⟨z, rfl⟩)
    case tup h2 r2 => exact .inr (.inr (.inr ⟨_, _, rfl, .of (C1.cm.sm _ _ h2)⟩))
    case rot h2 r2 => exact .inr (.inr (.inr ⟨_, _, rfl, same_seqT C1.cm.sm h2⟩))
  cases ry with
  | obj h1 r1 =>
    refine ⟨_, _, _, rfl, C1.cm.sm _ _ h1, dv, _, M, N, _, rfl, C1.cm, .cons (.obj h1 r1) (.cons rx .nil), h, fun d v M' N' H' q' fr cm r => ?_⟩
    obtain ⟨kk, rfl, q'⟩ := q'
    cases r
    exact ⟨⟨kk, rfl⟩, k _ _ M' N' H' q' (C1.step fr cm) fr.nn (.bl _)⟩
def fEither (f g : V2) : V2 := fun d e M Q => f d e M Q ∨ g d e M Q
theorem s2_or {r r' : R2} {f g : V2} (h : S2 K r f) (h' : S2 K r' g) : S2 K (fun x y H Q => r x y H Q ∨ r' x y H Q) (fEither f g) := by
  intro E0 G M N σ H C1 x y d e rx ry Q Qc q k
  rcases q with q | q
  · exact .inl (h E0 G M N σ H C1 x y d e rx ry Q Qc q k)
  · exact .inr (h' E0 G M N σ H C1 x y d e rx ry Q Qc q k)
theorem nf_self : PySem.W.notFirst K C (.ref C) = true := by unfold PySem.W.notFirst; simp
theorem sub_ty {t : String} (ht : t ∈ ["NoneType", "bool", "int", "str", "list", "tuple", "dict"]) : PySem.W.subIn K (.type t) (.ref C) = some false := by
  have go : ∀ {t : String} {l : List Value}, PySem.fastBuiltinMro t = some l → (l.contains (.ref C)) = false → PySem.W.subIn K (.type t) (.ref C) = some false := fun {t l} e e2 => by
    show (PySem.fastBuiltinMro t).map (·.contains (.ref C)) = some false
    rw [e]; simp only [Option.map_some, e2]
  simp only [List.mem_cons, List.not_mem_nil, or_false] at ht
  rcases ht with rfl | rfl | rfl | rfl | rfl | rfl | rfl
  · exact go (l := [.type "NoneType", .type "object"]) (by decide +kernel) (by first | rfl | simp)
  · exact go (l := [.type "bool", .type "int", .type "object"]) (by decide +kernel) (by first | rfl | simp)
  · exact go (l := [.type "int", .type "object"]) (by decide +kernel) (by first | rfl | simp)
  · exact go (l := [.type "str", .type "object"]) (by decide +kernel) (by first | rfl | simp)
  · exact go (l := [.type "list", .type "object"]) (by decide +kernel) (by first | rfl | simp)
  · exact go (l := [.type "tuple", .type "object"]) (by decide +kernel) (by first | rfl | simp)
  · exact go (l := [.type "dict", .type "object"]) (by decide +kernel) (by first | rfl | simp)
theorem nf_ty {t : String} (ht : t ∈ ["NoneType", "bool", "int", "str", "list", "tuple", "dict"]) : PySem.W.notFirst K C (.type t) = true := by
  unfold PySem.W.notFirst
  rw [sub_ty ht]
  simp
theorem nf_cls {C' : Addr} (h : PySem.W.subIn K (.ref C') (.ref C) = some false) : PySem.W.notFirst K C (.ref C') = true := by
  unfold PySem.W.notFirst
  rw [h]
  simp
/-! isinstance(x, C) of any datum -/
structure ClsI (K : PySem.W.Frag) (C : Addr) : Prop where
  is : ((PySem.W.clsIn K C).isSome && PySem.W.typeIn K (.ref C) == some (.type "type")) = true
theorem kit_no {t : Value} (c : ClsI K C) (hn : (t == Value.ref C) = false) (h : PySem.W.subIn K t (.ref C) = some false) : PySem.W.kitOne K t (.ref C) = some false := by
  unfold PySem.W.kitOne PySem.W.kitCls
  rw [hn]
  simp only [Bool.false_eq_true, if_false]
  rw [if_pos c.is, h]
/-- .. of an instance; of a plain datum -/
def fIsiW (K : PySem.W.Frag) : VL := fun ds M Q => ∃ d C, ds = [d, .ref C] ∧ ((∃ C' fs b, d = .obj C' fs ∧ ObC K C' ∧ PySem.W.kitOne K (.ref C') (.ref C) = some b ∧ Q (.bl b) M) ∨ (∃ t, tyD M d = some t ∧ ClsI K C ∧ Q (.bl false) M))
theorem sl_isiW : SL K (rIsi K) (fIsiW K) := by
  intro E G M N σ H C1 xs ds rx Q Qc h k
  obtain ⟨d, C, rfl, h⟩ := h
  obtain ⟨v, w, rfl, r, r2⟩ := rel2 rx
  have e := rel_ref r2
  subst e
  rcases h with ⟨C', fs, b, rfl, ob, hk, h⟩ | ⟨t, ht, ci, h⟩
  · cases r with
    | obj h1 r1 => exact ⟨_, .ref C, .ref C', .ref C, b, rfl, .own C, .base (.ins (C1.cm.sm _ _ h1) ob.cl ob.ha ob.hn ob.htk ob.hm), hk, k.at C1 h (.bl _)⟩
  · obtain ⟨h1, h2⟩ := ty_rel C1.cm r ht
    exact ⟨_, .ref C, _, .ref C, false, rfl, .own C, h1, kit_no ci (by first | rfl | simp) (sub_ty h2), k.at C1 h (.bl _)⟩
theorem kit_self : PySem.W.kitOne K (.ref C) (.ref C) = some true := by
  unfold PySem.W.kitOne
  rw [if_pos (by simp)]
end
section
variable {K : PySem.W.Frag} {C : Addr} {n : Nat} {sp : aSp} {M : Mp} {Q : QD} {d e : D} {fs : List (Str × D)}
theorem go_eqL {tb : Value} (ht : tyB M e = some tb) (hn : PySem.W.notFirst K C tb = true) (h2 : n = 2) (q : sp [.obj C fs, e] M (fun r M' => ∃ k, r = .bl k ∧ Q (.bl k) M')) : fEqL K C n sp (.obj C fs) e M Q := ⟨_, _, rfl, ht, hn, h2, q⟩
theorem go_neL {tb : Value} (ht : tyB M e = some tb) (hn : PySem.W.notFirst K C tb = true) (h2 : n = 2) (q : sp [.obj C fs, e] M (fun r M' => ∃ k, r = .bl k ∧ Q (.bl (!k)) M')) : fNeL K C n sp (.obj C fs) e M Q := ⟨_, _, rfl, ht, hn, h2, q⟩
theorem go_eqR (hd : decD d = true) (h2 : n = 2) (q : sp [.obj C fs, d] M (fun r M' => ∃ k, r = .bl k ∧ Q (.bl k) M')) : fEqR C n sp d (.obj C fs) M Q := ⟨_, rfl, hd, h2, q⟩
theorem go_isiS (ob : ObC K C) (q : Q (.bl true) M) : fIsiW K [.obj C fs, .ref C] M Q := ⟨_, _, rfl, .inl ⟨_, _, _, rfl, ob, kit_self, q⟩⟩
theorem go_isiX {C' : Addr} (ob : ObC K C') (h : PySem.W.kitOne K (.ref C') (.ref C) = some false) (q : Q (.bl false) M) : fIsiW K [.obj C' fs, .ref C] M Q := ⟨_, _, rfl, .inl ⟨_, _, _, rfl, ob, h, q⟩⟩
theorem go_isiN {t : String} (ht : tyD M d = some t) (ci : ClsI K C) (q : Q (.bl false) M) : fIsiW K [d, .ref C] M Q := ⟨_, _, rfl, .inr ⟨_, ht, ci, q⟩⟩
end
end DL

set_option Elab.async false
set_option linter.all false
set_option maxRecDepth 100000
/-! DX17: texts (split, one sign in a text, f-strings), a written dict asked, list.index of plain values; static methods, keywords of methods and of classes; an instance of ours stands still. -/
namespace DL
open PySem PySem.Spec PyProof.Rows L2
/-! ### texts -/
def fSplit : VM := fun d ds M Q => match d, ds with
  | .str a, [.str b] => a.length ≤ 1000000 ∧ (b.length == 0) = false ∧ Q (.list ((Txt.split a b).map .str)) M
  | _, _ => False
section
variable {X : Cx} {K : PySem.W.Frag}
theorem rel_strsR {N : Hp} : ∀ ys : List Str, RelL K N (ys.map V.str) (ys.map D.str)
  | [] => .nil
  | y :: ys => .cons (.str y) (rel_strsR ys)
theorem sm_split : SM K "str" (fun x xs H Q => ∃ a b, x = .str a ∧ xs = [.str b] ∧ (b.length == 0) = false ∧ a.length + 2 ≤ sizeLine ∧ rNewStrs (Txt.split a b) H Q) fSplit := by
  intro E G M N σ H C x d xs ds rx rs Q Qc h k
  unfold fSplit at h
  split at h
  · rename_i a b
    obtain ⟨v, rfl, r⟩ := rel1 rs
    have e := rel_str rx
    subst e
    have e := rel_str r
    subst e
    refine ⟨a, b, rfl, rfl, h.2.1, ?_, fun p hp => k.new C hp h.2.2 fun N' s e => .list e (rel_strsR _)⟩
    have := h.1
    rw [sizeLine_eq]
    omega
  · exact h.elim
def fIndexF : VM := fun d ds M Q => isLM d = true ∧ (match itemsM M d, ds with
  | some ys, [y] => flatD y = true ∧ ys.all flatD = true ∧ ∃ (j : Nat) (z : D), ys[j]? = some z ∧ eqF z y = true ∧ (∀ (m : Nat) z', m < j → ys[m]? = some z' → eqF z' y = false) ∧ Q (.int (j : Nat)) M
  | _, _ => False)
theorem flat_at {ys : List D} {j : Nat} {z : D} (h : ys.all flatD = true) (e : ys[j]? = some z) : flatD z = true := List.all_eq_true.mp h z (List.mem_of_getElem? e)
theorem sm_indexF : SM K "list" (rIndex K) fIndexF := by
  intro E G M N σ H C x d xs ds rx rs Q Qc h k
  obtain ⟨hL, h⟩ := h
  split at h
  · rename_i ys y hi
    obtain ⟨h1, h2, j, z, h3, h4, h5, h⟩ := h
    obtain ⟨v, rfl, r⟩ := rel1 rs
    obtain ⟨p, vs, rfl, r2, h6⟩ := rel_itemsM C.cm rx hi
    rcases h6 with ⟨_, h6⟩ | ⟨e, _⟩
    · obtain ⟨zv, e1, e2⟩ := r2.getR h3
      refine ⟨p, vs, v, j, zv, rfl, rfl, h6, flat_rel r h1, flats_rel r2 h2, e1, ?_, fun m z' hm e => ?_, k.at C h (.int _)⟩
      · rw [eqF_rel e2 r (flat_at h2 h3) h1]; exact h4
      · obtain ⟨dz, e3, e4⟩ := r2.get e
        rw [eqF_rel e4 r (flat_at h2 e3) h1]
        exact h5 m dz hm e3
    · rw [hL] at e; cases e
  · exact h.elim
/-! ### a written dict is asked -/
structure KdT (K : PySem.W.Frag) (w : World) (d : Addr) (L : List Str) : Prop where
  kd : ∃ es n, KDict K w d es n
  at_ : ∀ z, ∃ r : Option Value, PySem.W.nsIn K d z = some r ∧ r.isSome = decide (z ∈ L)
def rInW (d : Addr) (L : List Str) (neg : Bool) : R2 := fun x y H Q => ∃ z, x = .str z ∧ y = .ref d ∧ Q (.bl (if neg then !decide (z ∈ L) else decide (z ∈ L))) H
theorem op_inW {d : Addr} {L : List Str} (T : KdT X.K X.w d L) : OpR X (compareOp .In) (rInW d L false) := by
  intro pins s σ H x y v u Q I rx ry h
  obtain ⟨z, rfl, rfl, q⟩ := h
  obtain ⟨es, n, D⟩ := T.kd
  obtain ⟨r, e, er⟩ := T.at_ z
  exact op_in_kd D pins s σ H _ _ v u Q I rx ry ⟨z, r, rfl, rfl, e, by rw [er]; exact q⟩
theorem op_notInW {d : Addr} {L : List Str} (T : KdT X.K X.w d L) : OpR X (compareOp .NotIn) (rInW d L true) := by
  intro pins s σ H x y v u Q I rx ry h
  obtain ⟨z, rfl, rfl, q⟩ := h
  obtain ⟨es, n, D⟩ := T.kd
  obtain ⟨r, e, er⟩ := T.at_ z
  exact op_notIn_kd D pins s σ H _ _ v u Q I rx ry ⟨z, r, rfl, rfl, e, by rw [er]; exact q⟩
def fInW (d : Addr) (L : List Str) (neg : Bool) : V2 := fun x y M Q => ∃ z, x = .str z ∧ y = .ref d ∧ Q (.bl (if neg then !decide (z ∈ L) else decide (z ∈ L))) M
theorem s2_inW {d : Addr} {L : List Str} {neg : Bool} : S2 K (rInW d L neg) (fInW d L neg) := by
  intro E G M N σ H C x y dx e rx ry Q Qc h k
  obtain ⟨z, rfl, rfl, q⟩ := h
  have e := rel_str rx
  subst e
  have e := rel_ref ry
  subst e
  exact ⟨z, rfl, rfl, k.at C q (.bl _)⟩
/-! ### f-strings -/
def fFmt : V1 := fun d M Q => match d with
  | .str y => y.length ≤ 1000000 ∧ Q (.str y) M
  | .int i => 0 ≤ i ∧ i < 1000000 ∧ Q (.str (toString i)) M
  | _ => False
theorem se_fmt {te : TE} {ae : aE} (h : SE K te ae) : SE K (tFmt te) (aUn fFmt ae) := by
  intro E G M N σ H C Q Qc q k
  refine h E G M N σ H C _ _ q fun d v M1 N1 H1 h1 C1 s1 r1 => ?_
  unfold fFmt at h1
  split at h1
  · rename_i y
    have e := rel_str r1
    subst e
    exact .inl ⟨y, rfl, big_le h1.1, k _ _ M1 N1 H1 h1.2 C1 s1 (.str _)⟩
  · rename_i i
    have e := rel_int r1
    subst e
    refine .inr ⟨i, rfl, ?_, k _ _ M1 N1 H1 h1.2.2 C1 s1 (.str _)⟩
    by_cases z : i.natAbs = 0
    · rw [z]; decide
    · exact Nat.lt_trans ((Nat.log2_lt z (k := 20)).mpr (by omega)) (by decide)
  · exact h1.elim
theorem de_fmt {e : Expr} {te : TE} {ae : aE} {pos : Pos} (h : DE X e te ae) : DE X (.FormattedValue e (-1) none pos) (tFmt te) (aUn fFmt ae) := ⟨pe_fmt h.pe, se_fmt h.se⟩
def aJs : List aE → Str → aE
  | [], acc => fun _ M Q => Q (.str acc) M
  | a :: as, acc => fun G M Q => a G M fun d M1 => ∃ y, d = .str y ∧ (acc ++ y).length ≤ 1000000 ∧ aJs as (acc ++ y) G M1 Q
inductive DJ (X : Cx) : List Expr → List TE → List aE → Prop
  | nil : DJ X [] [] []
  | cons {e : Expr} {t : TE} {a : aE} {es : List Expr} {ts : List TE} {as : List aE} (h : DE X e t a) (r : DJ X es ts as) : DJ X (e :: es) (t :: ts) (a :: as)
theorem DJ.pj {es : List Expr} {ts : List TE} {as : List aE} (h : DJ X es ts as) : PJ X es ts := by
  induction h with
  | nil => exact .nil
  | cons h r ih => exact .cons h.pe ih
theorem se_js {es : List Expr} {ts : List TE} {as : List aE} (h : DJ X es ts as) : ∀ acc, SE X.K (fun σ H Q => tJs ts acc σ H fun out H1 => Q (.str out) H1) (aJs as acc) := by
  induction h with
  | nil =>
    intro acc E G M N σ H C Q Qc q k
    exact k.at C q (.str _)
  | cons h r ih =>
    intro acc E G M N σ H C Q Qc q k
    refine h.se E G M N σ H C _ _ q fun d v M1 N1 H1 h1 C1 s1 r1 => ?_
    obtain ⟨y, rfl, hl, h1⟩ := h1
    have e := rel_str r1
    subst e
    exact ⟨y, rfl, big_le hl, ih (acc ++ y) E G M1 N1 σ H1 C1 Q Qc h1 (k.from s1)⟩
theorem de_joined {v1 v2 : Expr} {rest : List Expr} {ts : List TE} {as : List aE} {pos : Pos} (h : DJ X (v1 :: v2 :: rest) ts as) : DE X (.JoinedStr (v1 :: v2 :: rest) pos) (fun σ H Q => tJs ts Str.empty σ H fun out H1 => Q (.str out) H1) (aJs as Str.empty) :=
  ⟨pe_joined h.pj, se_js h _⟩
/-- a module's text -/
theorem de_globS {x : Str} {z : Str} {t : Tok} {pos : Pos} (hg : Gl X x) (hm : X.mg x = some (.str z t)) (hd : (x == ("__debug__" : Str)) = false := by decide) : DE X (.Name x pos) (tC (.str z)) (aC (.str z)) := de_glob hg hm ⟨_, rfl⟩ (fun _ => .str _) hd
end
/-! ### static methods -/
/-- C.m is a static method: its record at p, its def at g -/
structure SMet (K : PySem.W.Frag) (C : Addr) (m : Str) (p g : Addr) : Prop where
  rd : PySem.W.readsIn K C (.type "type") = true
  ga : PySem.W.specialIn K (.ref C) "__getattribute__" = some (some (.builtin "type.__getattribute__"))
  at_ : PySem.W.findCls K (.ref C) (.type "type") m = some (.get (.builtin "staticmethod.__get__") (.ref p) .none (.ref C))
  rc : ∃ rest, PySem.W.recIn K p "staticmethod" = some (.ref g :: rest)
  kp : PySem.W.keepIn K (.ref g) = true
section
variable {X : Cx} {pins : List (Addr × Obj)} {σ : L2.St} {H : Hp} {s : Shared} {C p g : Addr} {m : Str}
theorem getsm_ok {A : Around} {E : Value → Shared → Prop} {pl : Sem Bool} {Q : Value × List Value → Shared → Prop} (I : Inv X pins σ H s) (c : SMet X.K C m p g) (h : ∀ tk, Inv X pins σ H { s with toks := tk } → Q (.ref g, []) { s with toks := tk }) : wpAny (model X.prog X.w) A (getMethod (.ref C) m pl) Q E s := by
  obtain ⟨rest, hp⟩ := c.rc
  refine PySem.W.method_cls I.kIn c.ga (PySem.W.cls_bind I.kIn c.rd c.at_ ?_)
  exact wpAny_call (PySem.W.sm_get (s := { s with toks := s.toks + 1 }) I.kIn hp (PySem.W.handed_on rfl (h _ (I.tok _))))
end
section
variable {X : Cx} {CX : CXT} {k n nn : Nat} {C p g : Addr} {fd : FuncData} {ps ks : List Str} {sp : aSp} {E : XK} {o e : Expr} {es : List Expr} {kws : List Keyword} {m : Str} {pos apos : Pos} {ta : TE} {t tk : TA} {aa : aE} {at1 ak : aA}
  {gV' : List Value → List Value → List Value} {gV : List V → List V → List V} {gD : List D → List D → List D}
def tSMeth (C : Addr) (S : Sp) (E : XK) (ta : TE) (t : TA) : TE := fun σ H Q => ta σ H fun x H1 => x = .ref C ∧ t σ H1 fun vs H2 => S vs H2 Q E
def aSMeth (C : Addr) (n : Nat) (sp : aSp) (x : aE) (y : aA) : aE := fun G M Q => x G M fun d M1 => d = .ref C ∧ y G M1 fun ds M2 => ds.length = n ∧ sp ds M2 Q
theorem se_smeth (h : SE X.K ta aa) (h2 : SA X.K t at1) : SE X.K (tSMeth C (lift X.K n sp) E ta t) (aSMeth C n sp aa at1) := by
  intro E0 G M N σ H C1 Q Qc q k
  refine h E0 G M N σ H C1 _ _ q fun d v M1 N1 H1 h1 C2 s1 r1 => ?_
  obtain ⟨rfl, h1⟩ := h1
  have e := rel_ref r1
  subst e
  refine ⟨rfl, h2 E0 G M1 N1 σ H1 C2 _ _ h1 fun ds vs M2 N2 H2 h3 C3 s2 r2 => ?_⟩
  exact ⟨ds, M2, N2, Q, h3.1, C3.cm, r2, h3.2, fun d v M' N' H' q' fr cm r => (k.from (s1.trans s2)) d v M' N' H' q' (C3.step fr cm) fr.nn r⟩
theorem de_smeth {pl : Sem Bool} (he : DE X o ta aa) (c : SMet X.K C m p g) (F : FnOk X.prog X.w X.K X.mg X.base CX k g fd ps (lift X.K n sp)) (hr : Room k X.A) (hb : Binds X.K fd ps []) (hx : Passes CX X E) (ha : DA X (e :: es) t at1)
    (hst : starEach (e :: es) X.env = (false, eval e X.env) :: starEach es X.env := by rfl) (hpl : (backTo pos (starEach es X.env)).any (·.1) = false := by rfl)
    (ht : eval (.Call (.Attribute o m apos) (e :: es) [] pos) X.env = (do
      let ov ← eval o X.env
      standAt apos.atName
      let (f, first) ← holding [ov] (getMethod ov m pl)
      callWith pos f first (backTo pos (starEach (e :: es) X.env)) (backToKw pos (keywordEach [] X.env))) := by rfl) :
    DE X (.Call (.Attribute o m apos) (e :: es) [] pos) (tSMeth C (lift X.K n sp) E ta t) (aSMeth C n sp aa at1) := by
  refine ⟨⟨fun pins s σ H Q I h => ?_⟩, se_smeth he.se ha.sa⟩
  refine PySem.W.methodCall_KW (pl := pl) (thn (he.pe.run pins s σ H _ I h) fun u s1 ⟨x, H1, I1, rx, ex, q⟩ => ?_) ht
  subst ex
  obtain rfl : u = Value.ref C := rx
  refine getsm_ok I1 c fun tk I2 => ?_
  refine PySem.W.callWith_K (first := []) (h₀ := X.base) I.ok.mod.kin c.kp (thn (ha.pa.run pos pins _ σ H1 _ I2 q) fun us s2 ⟨vs, H2, I3, r, q2⟩ => ⟨I3.kIn, ?_⟩) hst hpl
  exact run_fn (us := us) (vs := vs) (ds := []) (dvs := []) F hr hb .nil hx I3 r (by rw [List.append_nil]; exact q2)
/-- C.m(k = v, ..) -/
def tSMethK (C : Addr) (nk : Nat) (S : Sp) (gV : List V → List V → List V) (E : XK) (ta : TE) (t : TA) : TE := fun σ H Q => ta σ H fun x H1 => x = .ref C ∧ t σ H1 fun zs H2 => zs.length = nk ∧ S (gV [] zs) H2 Q E
def aSMethK (C : Addr) (nk n : Nat) (sp : aSp) (gD : List D → List D → List D) (x : aE) (y : aA) : aE := fun G M Q => x G M fun d M1 => d = .ref C ∧ y G M1 fun es M2 => es.length = nk ∧ (gD [] es).length = n ∧ sp (gD [] es) M2 Q
theorem de_smethK {pl : Sem Bool} (hgd : ∀ (N : Hp) vs ds ws es, RelL X.K N vs ds → RelL X.K N ws es → ds.length = 0 → es.length = ks.length → RelL X.K N (gV vs ws) (gD ds es))
    (he : DE X o ta aa) (c : SMet X.K C m p g) (F : FnOk X.prog X.w X.K X.mg X.base CX k g fd ps (lift X.K n sp)) (hr : Room k X.A) (hb : KBn X.K fd ps 0 ks gV' gV) (hx : Passes CX X E) (hkw : DK X kws tk ak)
    (hall : (backToKw pos (keywordEach kws X.env)).all (·.1.isSome) = true := by rfl) (hks : (backToKw pos (keywordEach kws X.env)).filterMap (·.1) = ks := by rfl)
    (hpl : ((backTo pos (starEach [] X.env)).any (·.1) || (backToKw pos (keywordEach kws X.env)).any (·.1.isNone)) = false := by rfl)
    (ht : eval (.Call (.Attribute o m apos) [] kws pos) X.env = (do
      let ov ← eval o X.env
      standAt apos.atName
      let (f, first) ← holding [ov] (getMethod ov m pl)
      callWith pos f first (backTo pos (starEach [] X.env)) (backToKw pos (keywordEach kws X.env))) := by rfl) :
    DE X (.Call (.Attribute o m apos) [] kws pos) (tSMethK C ks.length (lift X.K n sp) gV E ta tk) (aSMethK C ks.length n sp gD aa ak) := by
  refine ⟨⟨fun pins s σ H Q I h => ?_⟩, fun E0 G M N σ H C1 Q Qc q kk => ?_⟩
  · refine PySem.W.methodCall_KW (pl := pl) (thn (he.pe.run pins s σ H _ I h) fun u s1 ⟨x, H1, I1, rx, ex, q⟩ => ?_) ht
    subst ex
    obtain rfl : u = Value.ref C := rx
    refine getsm_ok I1 c fun tk' I2 => ?_
    refine PySem.W.callWith_KW0 (first := []) (h₀ := X.base) I.ok.mod.kin c.kp hall (thn (hkw.pk.run pos pins _ σ H1 _ I2 q) fun ws s2 ⟨zs, H2, I3, rz, l2, q2⟩ => ⟨I3.kIn, ?_⟩) hpl
    rw [hks]
    exact run_fnN (us := []) (vs := []) F hr hb hx I3 .nil rz rfl l2 q2
  · refine he.se E0 G M N σ H C1 _ _ q fun d v M1 N1 H1 h1 C2 s1 r1 => ?_
    obtain ⟨rfl, h1⟩ := h1
    have e := rel_ref r1
    subst e
    refine ⟨rfl, hkw.sa E0 G M1 N1 σ H1 C2 _ _ h1 fun es ws M2 N2 H2 h3 C3 s2 r2 => ?_⟩
    obtain ⟨l2, l3, h3⟩ := h3
    exact ⟨by rw [r2.length]; exact l2, gD [] es, M2, N2, Q, l3, C3.cm, hgd _ _ _ _ _ .nil r2 rfl l2, h3, fun d v M' N' H' q' fr cm r => (kk.from (s1.trans s2)) d v M' N' H' q' (C3.step fr cm) fr.nn r⟩
/-! ### o.m(k = v, ..) -/
def tMethK (C : Addr) (m : Str) (nk : Nat) (S : Sp) (gV : List V → List V → List V) (E : XK) (ta : TE) (t : TA) : TE := fun σ H Q => ta σ H fun x H1 => ∃ a dx fs, x = .ref a ∧ H1 a = some (.ins C dx fs) ∧ fs.lookup m = none ∧
  t σ H1 fun zs H2 => zs.length = nk ∧ S (gV [x] zs) H2 Q E
def aMethK (C : Addr) (m : Str) (nk n : Nat) (sp : aSp) (gD : List D → List D → List D) (x : aE) (y : aA) : aE := fun G M Q => x G M fun d M1 => (match d with
  | .obj C' gs => C' = C ∧ gs.lookup m = none
  | .ref p => (match M1 p with | some (.ins C' gs) => C' = C ∧ gs.lookup m = none | _ => False)
  | _ => False) ∧ y G M1 fun es M2 => es.length = nk ∧ (gD [d] es).length = n ∧ sp (gD [d] es) M2 Q
theorem de_methK {pl : Sem Bool} (hgd : ∀ (N : Hp) vs ds ws es, RelL X.K N vs ds → RelL X.K N ws es → ds.length = 1 → es.length = ks.length → RelL X.K N (gV vs ws) (gD ds es))
    (he : DE X o ta aa) (c : Cls X.K C) (hm : Meth X.K C m g) (F : FnOk X.prog X.w X.K X.mg X.base CX k g fd ps (lift X.K n sp)) (hr : Room k X.A) (hb : KBn X.K fd ps 1 ks gV' gV) (hx : Passes CX X E) (hkw : DK X kws tk ak)
    (hall : (backToKw pos (keywordEach kws X.env)).all (·.1.isSome) = true := by rfl) (hks : (backToKw pos (keywordEach kws X.env)).filterMap (·.1) = ks := by rfl)
    (hpl : ((backTo pos (starEach [] X.env)).any (·.1) || (backToKw pos (keywordEach kws X.env)).any (·.1.isNone)) = false := by rfl)
    (ht : eval (.Call (.Attribute o m apos) [] kws pos) X.env = (do
      let ov ← eval o X.env
      standAt apos.atName
      let (f, first) ← holding [ov] (getMethod ov m pl)
      callWith pos f first (backTo pos (starEach [] X.env)) (backToKw pos (keywordEach kws X.env))) := by rfl) :
    DE X (.Call (.Attribute o m apos) [] kws pos) (tMethK C m ks.length (lift X.K n sp) gV E ta tk) (aMethK C m ks.length n sp gD aa ak) := by
  refine ⟨⟨fun pins s σ H Q I h => ?_⟩, fun E0 G M N σ H C1 Q Qc q kk => ?_⟩
  · refine PySem.W.methodCall_KW (pl := pl) (thn (he.pe.run pins s σ H _ I h) fun u s1 ⟨x, H1, I1, rx, a, dx, fs, ex, ea, l, q⟩ => ?_) ht
    subst ex
    obtain rfl : u = Value.ref a := rx
    refine getmeth_ok I1 ea c hm l ?_
    refine PySem.W.callWith_KW0 (first := [.ref a]) (h₀ := X.base) I.ok.mod.kin hm.kp hall (thn (hkw.pk.run pos pins _ σ H1 _ I1 q) fun ws s2 ⟨zs, H2, I3, rz, l2, q2⟩ => ⟨I3.kIn, ?_⟩) hpl
    rw [hks]
    exact run_fnN (us := [.ref a]) (vs := [.ref a]) F hr hb hx I3 (.cons rfl .nil) rz rfl l2 q2
  · refine he.se E0 G M N σ H C1 _ _ q fun d v M1 N1 H1 h1 C2 s1 r1 => ?_
    obtain ⟨h1, h2⟩ := h1
    have go : ∀ {a dx : Addr} {fs : List (Str × V)}, v = .ref a → H1 a = some (.ins C dx fs) → fs.lookup m = none → tMethK C m ks.length (lift X.K n sp) gV E (fun _ H Q => Q v H) tk σ H1 Qc := fun {a dx fs} e ea l => by
      refine ⟨a, dx, fs, e, ea, l, hkw.sa E0 G M1 N1 σ H1 C2 _ _ h2 fun es ws M2 N2 H2 h3 C3 s2 r2 => ?_⟩
      obtain ⟨l2, l3, h3⟩ := h3
      exact ⟨by rw [r2.length]; exact l2, gD [d] es, M2, N2, Q, l3, C3.cm, hgd _ _ _ _ _ (.cons (r1.mono s2) .nil) r2 rfl l2, h3, fun d v M' N' H' q' fr cm r => (kk.from (s1.trans s2)) d v M' N' H' q' (C3.step fr cm) fr.nn r⟩
    split at h1
    · obtain ⟨rfl, h1⟩ := h1
      obtain ⟨a, dx, xs, e, h4, h5⟩ := rel_obj r1
      exact go e (C2.cm.sm _ _ h4) (h5.lookup_none h1)
    · have e := rel_ref r1
      split at h1
      · rename_i C' gs hM
        obtain ⟨rfl, h1⟩ := h1
        obtain ⟨dx, fs, h4, h5⟩ := C2.cm.inst hM
        exact go e h4 (h5.lookup_none h1)
      · exact h1.elim
    · exact h1.elim
/-! ### C(k = v, ..) -/
def aMakeK (C : Addr) (nk n : Nat) (sp : aSp) (gD : List D → List D → List D) (y : aA) : aE := fun G M Q => y G M fun es M1 => es.length = nk ∧ ∀ x, M1 x = none → (gD [.ref x] es).length = n ∧
  sp (gD [.ref x] es) (mupd M1 x (.ins C [])) fun r M2 => r = .non ∧ ∃ gs, M2 x = some (.ins C gs) ∧ Q (.obj C gs) (mdel M2 x)
end
end DL

set_option Elab.async false
set_option linter.all false
set_option maxRecDepth 100000
/-! DX18: for within a generator; generators of data. -/
namespace PySem
section
variable {M : Model} {A : Around} {R : GenEnd} {Y : Protocol} {n : Nat} {s₀ : Shared} {c : Code} {fs : List Frame} {s : Shared} {env : Env} {H : Value → Sem Fin} {gd : Bool → Bool} {lv : List Value → List Value}
theorem segW_bind {α β : Type} {m : Sem α} {f : α → Sem β} {K : β → Sem Fin} (h : wpAny M (A.over c fs) m (fun a s' => Seg M A R Y n s₀ c ((f a).wrap K H gd lv) fs s') (fun x s' => Seg M A R Y n s₀ c (H x) fs s') s) :
    Seg M A R Y n s₀ c ((m >>= f).wrap K H gd lv) fs s := by
  rw [Sem.bind_eq_wrap', Sem.wrap_wrap]
  exact seg_wrap h
theorem seg_For {K : Flow → Sem Fin} {target iter : Expr} {body : List Stmt} {pos : Pos} (hs : ∀ x, foldedSetIterable iter env x = pure x)
    (h : wpAny M (A.over c fs) (eval iter env) (fun x s1 => wpAny M (A.over c fs) (pyIter x) (fun it s2 => ∀ p, Seg M A R Y n s₀ (.forLoop target it body [] env) (M.den (.forLoop target it body [] env))
      (.ret (fun r => ((match r with | .ok f => (.pure f : Sem Flow) | .error e => .raise e).onRaise fun (x : Value) => do
        if (← field x 1) == Value.none then unsupported "frame.own-activation:exception-without-traceback"
        setFlight x env.frame).wrap K H gd lv) none (gd false) (lv []) c p [] :: fs) s2) (fun x s' => Seg M A R Y n s₀ c (H x) fs s') s1) (fun x s' => Seg M A R Y n s₀ c (H x) fs s') s) :
    Seg M A R Y n s₀ c ((exec (.For target iter body [] pos) env).wrap K H gd lv) fs s := by
  rw [exec_For]
  refine segW_bind (wpAny_standAt (segW_bind (wpAny_mono h (fun x s1 h1 => ?_) fun _ _ z => z)))
  refine segW_bind (wpAny_of_eq (hs x) (segW_bind (wpAny_standAt (segW_bind (wpAny_holding (wpAny_mono h1 (fun it s2 h2 => ?_) fun _ _ z => z))))))
  exact seg_call h2
end
section
variable {prog : Program} {w : World} {A : Around} {R : GenEnd} {Y : Protocol} {n : Nat} {s₀ : Shared} {fs : List Frame} {s : Shared} {env : Env}
theorem seg_forLoop {target : Expr} {it : Value} {body : List Stmt}
    (h : wpAny (model prog w) (A.over (.forLoop target it body [] env) fs) (pyNext it) (fun r s1 => match r with
        | none => Seg (model prog w) A R Y n s₀ (.forLoop target it body [] env) (.pure (.again (.block [] env))) fs s1
        | some v => wpAny (model prog w) (A.over (.forLoop target it body [] env) fs) (letOwnedTupleGo target it v) (fun _ s2 => wpAny (model prog w) (A.over (.forLoop target it body [] env) fs) (assign target env v) (fun _ s3 =>
          Seg (model prog w) A R Y n s₀ (.forLoop target it body [] env) ((execs body env).wrap (fun f => match f with
            | .next | .cont => .pure (.again (.forLoop target it body [] env))
            | .brk => .pure (.done .next)
            | .ret v => .pure (.done (.ret v))) (fun e => (do noteFrame e env; theTreesLotGoes e : Sem Unit).wrap (fun _ => .raise e) .raise id id) id id) fs s3)
          (fun x s' => Seg (model prog w) A R Y n s₀ (.forLoop target it body [] env) ((do noteFrame x env; theTreesLotGoes x : Sem Unit).wrap (fun _ => .raise x) .raise id id) fs s') s2)
          (fun x s' => Seg (model prog w) A R Y n s₀ (.forLoop target it body [] env) ((do noteFrame x env; theTreesLotGoes x : Sem Unit).wrap (fun _ => .raise x) .raise id id) fs s') s1)
      (fun x s' => Seg (model prog w) A R Y n s₀ (.forLoop target it body [] env) ((do noteFrame x env; theTreesLotGoes x : Sem Unit).wrap (fun _ => .raise x) .raise id id) fs s') s) :
    Seg (model prog w) A R Y n s₀ (.forLoop target it body [] env) ((model prog w).den (.forLoop target it body [] env)) fs s := by
  show Seg _ A R Y n s₀ _ ((forTurn target it body [] env).onRaise (fun x => do noteFrame x env; theTreesLotGoes x)) fs s
  have nt : ∀ {s' : Shared} {x : Value}, Seg (model prog w) A R Y n s₀ (.forLoop target it body [] env) ((do noteFrame x env; theTreesLotGoes x : Sem Unit).wrap (fun _ => .raise x) .raise id id) fs s' →
      Seg (model prog w) A R Y n s₀ (.forLoop target it body [] env) ((do noteFrame x env; theTreesLotGoes x : Sem Unit).bind fun _ => (Sem.raise x : Sem Fin)) fs s' := fun {s' x} hx => by
    rw [Sem.bind_eq_wrap]; exact hx
  unfold forTurn
  rw [Sem.onRaise_eq_wrap]
  refine segW_bind (wpAny_standAt (segW_bind (wpAny_onRaise (wpAny_mono h (fun r s1 h1 => ?_) fun x s' hx => wpAny_standAt ?_))))
  · cases r with
    | none => exact h1
    | some v =>
      refine segW_bind (wpAny_mono h1 (fun _ s2 h2 => segW_bind (wpAny_mono h2 (fun _ s3 h3 => ?_) fun x s' hx => ?_)) fun x s' hx => ?_)
      · rw [Sem.bind_eq_wrap', Sem.wrap_wrap]
        rw [Sem.wrap_congr (execs body env) _ _ (K' := fun f => match f with
            | .next | .cont => .pure (.again (.forLoop target it body [] env))
            | .brk => .pure (.done .next)
            | .ret v => .pure (.done (.ret v))) (H' := (fun e => (do noteFrame e env; theTreesLotGoes e : Sem Unit).wrap (fun _ => .raise e) .raise id id))
          (fun f => by cases f <;> rfl)
          (fun e => by first | exact Sem.bind_eq_wrap _ _ | (show (do noteFrame e env; theTreesLotGoes e : Sem Unit).bind (fun _ => .raise e) = _; rw [Sem.bind_eq_wrap]))]
        exact h3
      · exact nt hx
      · exact nt hx
  · exact nt hx
end
end PySem
namespace DL
open PySem PySem.Spec PyProof.Rows L2
def tGFor (wi : TI) (g : TG) (tb : TGn) : TGn := fun D ys σ H => wi σ H fun J H1 => ∃ W : Nat → Nat → List V → L2.St → Hp → Prop, (∃ m, W 0 m ys σ H1) ∧ ∀ i m ys σ H, W i m ys σ H →
  (J.stop i H ∧ D.nx ys σ H) ∨ (J.go i H ∧ ∃ N : List V → L2.St → Hp → Prop, (∀ ys' σ' H', N ys' σ' H' → ∃ m', m' < m ∧ W (i + 1) m' ys' σ' H') ∧ ∀ x H', J.yld i H x H' → g x σ H' fun σ2 H2 => tb { D with nx := N, ct := N, bk := D.nx } ys σ2 H2)
theorem gs_for {X : Cx} {tg iter : Expr} {body : List Stmt} {wi : TI} {g : TG} {tb : TGn} {pos : Pos} (hp : PassesOwn (model X.prog X.w) X.A X.env X.xe) (hc : X.calm = true) (hi : PI X tg iter wi) (hg : PG X tg g) (hb : GSs X body tb)
    (hs : ∀ x, foldedSetIterable iter X.env x = pure x := by intro _; rfl) : GS X (.For tg iter body [] pos) (tGFor wi g tb) := by
  refine ⟨fun A S ip R n ys s₀ c fs K J gd lv s σ H D gc hn k hI ht => ?_⟩
  obtain ⟨acc, cc, r, I⟩ := hI
  refine PySem.seg_For hs ?_
  rw [gc.over]
  refine wpAny_mono (hi.run _ s σ H _ I ht) (fun v s1 h1 => ?_) fun x s' hx => k.exc n s₀ x s' hx
  refine wpAny_mono h1 (fun itv s2 h2 p => ?_) fun x s' hx => k.exc n s₀ x s' hx
  obtain ⟨it, fp, tn, J', H2, e, I2, T, st2, f2, W, ⟨m0, w0⟩, turn⟩ := h2
  subst e
  have stat : ∀ {acc' : Array Value} {c' : Nat} {H' : Hp}, (∀ b ∈ fp, H' b = none) → ∀ b ∈ fp, FpOk X ((S, lstObj acc' c') :: ip) H' b := fun {acc' c' H'} hn b hb => by
    obtain ⟨_, q1, q2, q3, q4, q5⟩ := f2 b hb
    refine ⟨hn b hb, q1, q2, q3, q4, fun p hp => ?_⟩
    rcases List.mem_append.mp hp with z | z
    · exact q5 p (List.mem_append_left _ z)
    · rcases List.mem_cons.mp z with rfl | z
      · exact q5 (S, lstObj acc cc) (List.mem_append_right _ List.mem_cons_self)
      · exact q5 p (List.mem_append_right _ (List.mem_cons_of_mem _ z))
  have gl := fun (kk : Result → Sem PySem.Fin) => gc_loop (k := kk) (c' := .forLoop tg (.ref it) body [] X.env) (l := lv []) (kp := []) (p := p) gc rfl rfl
  have gl2 := fun (kk : Result → Sem PySem.Fin) => gc_loop (k := kk) (c' := .block [] X.env) (l := lv []) (kp := []) (p := p) gc rfl rfl
  have loop : ∀ (m i n : Nat) (ys : List V) (s₀ s : Shared) (σ : L2.St) (H : Hp), n + ys.length = sizeLine → W i m ys σ H → GI X S ip ys σ H s → tn i s.heap → (∀ b ∈ fp, H b = none) →
      Seg (model X.prog X.w) A R (GY X S) n s₀ (.forLoop tg (.ref it) body [] X.env) ((model X.prog X.w).den (.forLoop tg (.ref it) body [] X.env))
        (.ret (fun r => ((match r with | .ok f => (.pure f : Sem Flow) | .error e => .raise e).onRaise (cameBack X.env)).wrap K J gd lv) none (gd false) (lv []) c p [] :: fs) s := by
    intro m
    induction m using Nat.strongRecOn with
    | ind m ih =>
      intro i n ys s₀ s3 σ3 H3 hn w3 hI st3 fr3
      have ee : ∀ (n : Nat) (s₀ : Shared) (x : Value) (s' : Shared), X.xe x s' → Seg (model X.prog X.w) A R (GY X S) n s₀ (.forLoop tg (.ref it) body [] X.env)
          ((do noteFrame x X.env; theTreesLotGoes x : Sem Unit).wrap (fun _ => .raise x) .raise id id)
          (.ret (fun r => ((match r with | .ok f => (.pure f : Sem Flow) | .error e => .raise e).onRaise (cameBack X.env)).wrap K J gd lv) none (gd false) (lv []) c p [] :: fs) s' := fun n s₀ x s' hx => by
        refine seg_wrap ?_
        rw [(gl _).over]
        refine wpAny_bind (wpAny_mono (hp x s' hx) (fun _ s'' hcb => wpAny_theTreesLotGoes ?_) fun y s'' hcb => ?_)
        · exact seg_leaf (.error x) (seg_cameBack gc k hcb)
        · exact seg_leaf (.error y) (seg_cameBack gc k hcb)
      refine PySem.seg_forLoop ?_
      rw [(gl _).over]
      obtain ⟨acc3, c3, r3, I3⟩ := hI
      rcases turn i m ys σ3 H3 w3 with ⟨stop, qn⟩ | ⟨go, N, hN, step⟩
      · refine wpAny_mono (T.done X rfl rfl rfl hc i _ s3 σ3 H3 X.xe I3 (stat fr3) st3 stop) (fun r s4 ⟨hr, I4⟩ => ?_) fun x s' hx => ee n s₀ x s' hx
        subst hr
        exact seg_again rfl (seg_leaf (.ok .next) (k.ok n ys s₀ s4 .next hn ⟨σ3, H3, ⟨acc3, c3, r3, I4⟩, qn⟩))
      · refine wpAny_mono (T.item X rfl rfl rfl hc i _ s3 σ3 H3 X.xe I3 (stat fr3) st3 go) (fun r s4 ⟨u, hr, h4⟩ => ?_) fun x s' hx => ee n s₀ x s' hx
        subst hr
        refine wpAny_mono h4 (fun _ s5 ⟨x, H5, I5, r5, y5, st5, fr5⟩ => ?_) fun x s' hx => ee n s₀ x s' hx
        have I5' := I5.pinned (stat fr5) (T.obj _ _ st5)
        refine wpAny_mono (hg.run _ s5 σ3 H5 x u _ I5' r5 (step x H5 y5)) (fun _ s6 ⟨σ6, H6, I6, q6⟩ => ?_) fun x s' hx => ee n s₀ x s' hx
        have gip : ∀ q ∈ ip ++ pinsAt fp s5.heap, q.1 ≠ S := fun q hq => (List.mem_append.mp hq).elim (gc.ip q) fun z => by
          obtain ⟨hb', _⟩ := of_pinsAt z
          intro e
          exact (f2 q.1 hb').2.2.2.2.2 (S, lstObj acc cc) (List.mem_append_right _ List.mem_cons_self) e.symm
        have gb := fun (kk : Result → Sem PySem.Fin) => (⟨(gl kk).pn, gip, (gl kk).apart, (gl kk).over, (gl kk).split, (gl kk).guard, (gl kk).gd⟩ : GC X S (ip ++ pinsAt fp s5.heap) A (.forLoop tg (.ref it) body [] X.env) _ id)
        refine hb.run A S (ip ++ pinsAt fp s5.heap) R n ys s₀ _ _ _ _ id id s6 σ6 H6 { D with nx := N, ct := N, bk := D.nx } (gb _) hn ⟨fun n' ys' s₀' s7 f hn' hs' => ?_, fun n' s₀' x s7 hx => ee n' s₀' x s7 hx⟩ ⟨acc3, c3, r3, I6⟩ q6
        have again : ∀ {σ7 : L2.St} {H7 : Hp}, GI X S (ip ++ pinsAt fp s5.heap) ys' σ7 H7 s7 → N ys' σ7 H7 → ∃ m', m' < m ∧ W (i + 1) m' ys' σ7 H7 ∧ GI X S ip ys' σ7 H7 s7 ∧ tn (i + 1) s7.heap ∧ ∀ b ∈ fp, H7 b = none := fun {σ7 H7} ⟨a7, c7, r7, I7⟩ n7 => by
          obtain ⟨m', hm, w7⟩ := hN ys' σ7 H7 n7
          have I7' : Inv X (((S, lstObj a7 c7) :: ip) ++ pinsAt fp s5.heap) σ7 H7 s7 := I7
          refine ⟨m', hm, w7, ⟨a7, c7, r7, I7'.unpinned⟩, T.keep _ _ _ st5 fun b hb o e => (I7'.pin (b, o) (List.mem_append_right _ (List.mem_append_right _ (mem_pinsAt hb e)))).1, fun b hb => ?_⟩
          obtain ⟨o, e, d⟩ := T.obj _ _ st5 b hb
          exact (I7'.pin (b, o) (List.mem_append_right _ (List.mem_append_right _ (mem_pinsAt hb e)))).2.1
        have un : ∀ {σ7 : L2.St} {H7 : Hp}, GI X S (ip ++ pinsAt fp s5.heap) ys' σ7 H7 s7 → GI X S ip ys' σ7 H7 s7 := fun {σ7 H7} ⟨a7, c7, r7, I7⟩ => by
          have I7' : Inv X (((S, lstObj a7 c7) :: ip) ++ pinsAt fp s5.heap) σ7 H7 s7 := I7
          exact ⟨a7, c7, r7, I7'.unpinned⟩
        cases f with
        | next =>
          obtain ⟨σ7, H7, I7, n7⟩ := hs'
          obtain ⟨m', hm, w7, I8, t8, f8⟩ := again I7 n7
          exact seg_again rfl (ih m' hm (i + 1) n' ys' s₀' s7 σ7 H7 hn' w7 I8 t8 f8)
        | cont =>
          obtain ⟨σ7, H7, I7, n7⟩ := hs'
          obtain ⟨m', hm, w7, I8, t8, f8⟩ := again I7 n7
          exact seg_again rfl (ih m' hm (i + 1) n' ys' s₀' s7 σ7 H7 hn' w7 I8 t8 f8)
        | brk =>
          obtain ⟨σ7, H7, I7, n7⟩ := hs'
          exact seg_leaf (.ok .next) (k.ok n' ys' s₀' s7 .next hn' ⟨σ7, H7, un I7, n7⟩)
        | ret v =>
          obtain ⟨x7, σ7, H7, I7, r7, q7⟩ := hs'
          exact seg_leaf (.ok (.ret v)) (k.ok n' ys' s₀' s7 (.ret v) hn' ⟨x7, σ7, H7, un I7, r7, q7⟩)
  exact loop m0 0 n ys s₀ s2 σ H2 hn w0 ⟨acc, cc, r, I2⟩ st2 fun b hb => (f2 b hb).1
end DL
namespace DL
open PySem PySem.Spec PyProof.Rows L2
/-! ### a generator def's promise over data -/
abbrev aGSp := List D → Mp → (List D → Mp → Prop) → Prop
def liftG (K : PySem.W.Frag) (n : Nat) (sp : aGSp) : SpG := fun vs H cont _ => ∃ ds M N Q', ds.length = n ∧ CM K M N H ∧ RelL K N vs ds ∧ sp ds M Q' ∧
  ∀ outs outV M' N' H', Q' outs M' → Fr M N H M' N' H' → CM K M' N' H' → RelL K N' outV outs → cont outV H'
/-- for .. in ..: yield .. -/
def genGo (g : aG) (x : aE) : List D → List D → Gm → Mp → (List D → Mp → Prop) → Prop
  | [], acc, _, M, Q => Q acc M
  | d :: ds, acc, G, M, Q => g d G M fun G' M' => x G' M' fun y M2 => genGo g x ds (acc ++ [y]) G' M2 Q
def aGenFor (src : aA) (g : aG) (x : aE) : Gm → Mp → (List D → Mp → Prop) → Prop := fun G M Q => src G M fun ds M1 => ds.length ≤ 1000000 ∧ genGo g x ds [] G M1 Q
section
variable {K : PySem.W.Frag}
theorem sgen {wi : TI} {awi : aA} {g : TG} {ag : aG} {te : TE} {ae : aE} (hi : SI K wi awi) (hg : SG K g ag) (he : SE K te ae) {E : En} {G : Gm} {M : Mp} {N H : Hp} {σ : L2.St} (C : CC K E G M N σ H) {Q : List D → Mp → Prop} {D0 : GEnds}
    (q : aGenFor awi ag ae G M Q) (k : ∀ outs outV G' M' N' σ' H', Q outs M' → CC K E G' M' N' σ' H' → Same N N' → RelL K N' outV outs → D0.nx outV σ' H') : tGFor wi g (tGThen (tGYield te) tG0) D0 [] σ H := by
  refine hi E G M N σ H C _ _ q fun ds M1 N1 H1 J h1 C1 s1 dr => ?_
  refine ⟨fun i m ys σ H => ∃ M N G acc, CC K E G M N σ H ∧ Same N1 N ∧ RelL K N ys acc ∧ ys.length = i ∧ i ≤ ds.length ∧ m = ds.length - i ∧ genGo ag ae (ds.drop i) acc G M Q,
    ⟨_, M1, N1, G, [], C1, Same.refl _, .nil, rfl, Nat.zero_le _, rfl, h1.2⟩, ?_⟩
  rintro i m ys σ H ⟨M, N, G, acc, C2, s2, ra, hl, hle, rfl, hq⟩
  obtain ⟨d1, d2⟩ := dr _ _ M N _ H C2 s2 i
  by_cases hlt : ds.length ≤ i
  · rw [List.drop_eq_nil_of_le hlt] at hq
    exact .inl ⟨d1 hlt, k acc ys G M N σ H hq C2 (s1.trans s2) ra⟩
  · have hlt : i < ds.length := by omega
    rw [List.drop_eq_getElem_cons hlt] at hq
    obtain ⟨g1, g2⟩ := d2 ds[i] (List.getElem?_eq_getElem hlt)
    refine .inr ⟨g1, fun ys' σ' H' => ∃ M N G acc, CC K E G M N σ' H' ∧ Same N1 N ∧ RelL K N ys' acc ∧ ys'.length = i + 1 ∧ genGo ag ae (ds.drop (i + 1)) acc G M Q,
      fun ys' σ' H' ⟨M, N, G, acc, x1, x2, x3, x4, x5⟩ => ⟨ds.length - (i + 1), by omega, M, N, G, acc, x1, x2, x3, x4, hlt, rfl, x5⟩, fun x H' hy => ?_⟩
    obtain ⟨N2, s3, f2, c2, r2⟩ := g2 x H' hy
    refine hg _ _ M N2 _ H' (C2.step f2 c2) x _ r2 _ _ hq fun G3 M3 N3 σ3 H3 h3 C3 s4 => ?_
    refine ⟨?_, he _ _ M3 N3 σ3 H3 C3 _ _ h3 fun y v M4 N4 H4 h4 C4 s5 r4 => ?_⟩
    · rw [hl, sizeLine_eq]
      have := h1.1
      omega
    · exact ⟨M4, N4, G3, acc ++ [y], C4, s2.trans (s3.trans (s4.trans s5)), (ra.mono (s3.trans (s4.trans s5))).append (.cons r4 .nil), by rw [List.length_append, hl]; rfl, h4⟩
end
theorem noStop0 {K : PySem.W.Frag} : NoStop K L2.E0 := fun _ _ _ h => h.elim
/-- a generator def: for .. in ..: yield .. -/
theorem okG {P : Program} {w : World} {K : PySem.W.Frag} {mg : Str → Option Value} {base : Heap} {k n : Nat} {f : Addr} {name qual : Str} {params : Arguments} {scope : Scope} {dV kV doc pm cdv ct oc : Value} {an od : Option Addr}
    {osl : Array (Option Value)} {N ps : List Str} {sp : aGSp} {tg iter e : Expr} {yp ypos pos : Pos} (lk : K.lookup f = some ⟨oc, od, .func (PySem.W.fnOf name qual params [.For tg iter [.Expr (.Yield (some e) yp) ypos] [] pos] scope dV kV doc pm an cdv ct), osl⟩) (hcd : PySem.W.codeIn K cdv qual = true) (S : GScope N ps scope) (hn : n = ps.length)
    (hs : ∀ (A : Around) (s : Shared) (x : Value), foldedSetIterable iter (envOfC qual scope s.heap.objs.size f cdv) x = pure x)
    (hbody : ∀ (A : Around) (outer : List Env) (s : Shared) (H : Hp) (E : XK) (pn : List (Addr × Obj)), Room k (A.deeper (envOfC qual scope s.heap.objs.size f cdv)) →
      ∃ wi awi g ag te ae, DI (gcxOf P w K mg base N qual scope f cdv A outer s H E pn) tg iter wi awi ∧ DG (gcxOf P w K mg base N qual scope f cdv A outer s H E pn) tg g ag ∧ DE (gcxOf P w K mg base N qual scope f cdv A outer s H E pn) e te ae ∧
        (∀ ds M Q, ds.length = n → sp ds M Q → aGenFor awi ag ae (startG N ds) M Q)) :
    GFn P w K mg base (k + 1) f (PySem.W.fnOf name qual params [.For tg iter [.Expr (.Yield (some e) yp) ypos] [] pos] scope dV kV doc pm an cdv ct) ps (liftG K n sp) := by
  refine gfn_of lk hcd S (fun vs H Q E h => ?_) (fun A outer s H vs Q E pn hr h => ?_)
  · obtain ⟨ds, M, N, Q', hl, _, r, _⟩ := h
    rw [r.length, hl, hn]
  · obtain ⟨ds, M, N', Q', hl, cm, r, hsp, kk⟩ := h
    obtain ⟨wi, awi, g, ag, te, ae, h1, h2, h3, h4⟩ := hbody A outer s H E pn hr
    refine ⟨tGThen (tGFor wi g (tGThen (tGYield te) tG0)) tG0, gss_cons (gs_for owns_gcx rfl h1.pi h2.pg (gss_cons (gs_yield h3.pe S.co (by show (scope.kind == .module && _) = false; rw [S.kind]; rfl)) gss_nil) (hs A s)) gss_nil, ?_⟩
    exact sgen (E := ⟨M, N', H⟩) h1.si h2.sg h3.se ⟨.refl, cm, sl_start r⟩ (h4 ds M Q' hl hsp) fun outs outV G' M' N2 σ' H' q C' s' r' => kk outs outV M' N2 H' q C'.fr C'.cm r'
end DL

set_option Elab.async false
set_option linter.all false
set_option maxRecDepth 100000
/-! DX19: list(o.m(..)) of a generator method; C(..) that may change; C(k = v); an instance of ours stands still. -/
namespace DL
open PySem PySem.Spec PyProof.Rows L2
section
variable {X : Cx} {CX : CXT} {k n : Nat} {C g : Addr} {fd : FuncData} {ps ks : List Str} {E : XK} {o e : Expr} {es : List Expr} {kws : List Keyword} {m x : Str} {p pos pos' apos : Pos} {ta : TE} {t tk : TA} {aa : aE} {at1 ak : aA}
  {gV' : List Value → List Value → List Value} {gV : List V → List V → List V} {gD : List D → List D → List D}
/-! ### list(o.m(..)) -/
def aListG (C : Addr) (m : Str) (n : Nat) (sp : aGSp) (x : aE) (y : aA) : aE := fun G M Q => x G M fun d M1 => (match d with
  | .obj C' gs => C' = C ∧ gs.lookup m = none
  | .ref p => (match M1 p with | some (.ins C' gs) => C' = C ∧ gs.lookup m = none | _ => False)
  | _ => False) ∧ y G M1 fun ds M2 => ds.length + 1 = n ∧ sp (d :: ds) M2 fun outs M3 => Q (.list outs) M3
theorem inst_of {E0 : En} {G : Gm} {M : Mp} {N H : Hp} {σ : L2.St} {d : D} {v : V} (C2 : CC X.K E0 G M N σ H) (r1 : RelD X.K N v d) (h1 : kMeth C m d M) : ∃ a dx fs, v = .ref a ∧ H a = some (.ins C dx fs) ∧ fs.lookup m = none := by
  unfold kMeth at h1
  split at h1
  · obtain ⟨rfl, h1⟩ := h1
    obtain ⟨a, dx, xs, e, h4, h5⟩ := rel_obj r1
    exact ⟨a, dx, xs, e, C2.cm.sm _ _ h4, h5.lookup_none h1⟩
  · have e := rel_ref r1
    split at h1
    · rename_i C' gs hM
      obtain ⟨rfl, h1⟩ := h1
      obtain ⟨dx, fs, h4, h5⟩ := C2.cm.inst hM
      exact ⟨_, dx, fs, e, h4, h5.lookup_none h1⟩
    · exact h1.elim
  · exact h1.elim
theorem se_listG {sp : aGSp} (h : SE X.K ta aa) (h2 : SA X.K t at1) : SE X.K (tListG (tMethG C m (liftG X.K n sp) [] E ta t)) (aListG C m n sp aa at1) := by
  intro E0 G M N σ H C1 Q Qc q kk
  refine h E0 G M N σ H C1 _ _ q fun d v M1 N1 H1 h1 C2 s1 r1 => ?_
  obtain ⟨h1, h3⟩ := h1
  obtain ⟨a, dx, fs, e, ea, l⟩ := inst_of C2 r1 h1
  refine ⟨a, dx, fs, e, ea, l, h2 E0 G M1 N1 σ H1 C2 _ _ h3 fun ds vs M2 N2 H2 h4 C3 s2 r2 => ?_⟩
  rw [List.append_nil]
  refine ⟨d :: ds, M2, N2, _, by rw [List.length_cons]; exact h4.1, C3.cm, .cons (r1.mono s2) r2, h4.2, fun outs outV M' N' H' q' fr cm r => ?_⟩
  intro p hp
  have C4 := C3.step fr cm
  exact (kk.from (s1.trans (s2.trans fr.nn))).new C4 hp q' fun N'' s e => .list e (r.mono s)
theorem de_listG {sp : aGSp} {pl : Sem Bool} (he : DE X o ta aa) (c : Cls X.K C) (hm : Meth X.K C m g) (F : GFn X.prog X.w X.K X.mg X.base k g fd ps (liftG X.K n sp)) (hr : Room (k + 3) X.A) (hb : Binds X.K fd ps []) (ha : DA X (e :: es) t at1)
    (hg : Gl X "list") (hmg : X.mg "list" = none) (hx : Passes (L2.CX X.prog X.w) X L2.E0 := by exact fun _ _ _ _ _ _ _ ⟨_, _, _, _, _, _, _, _, _, _, _, _, h⟩ => h.elim)
    (hst : starEach (e :: es) X.env = (false, eval e X.env) :: starEach es X.env := by rfl) (hpl : (backTo pos' (starEach es X.env)).any (·.1) = false := by rfl)
    (ht : eval (.Call (.Attribute o m apos) (e :: es) [] pos') X.env = (do
      let ov ← eval o X.env
      standAt apos.atName
      let (f, first) ← holding [ov] (getMethod ov m pl)
      callWith pos' f first (backTo pos' (starEach (e :: es) X.env)) (backToKw pos' (keywordEach [] X.env))) := by rfl)
    (hs : starEach [Expr.Call (.Attribute o m apos) (e :: es) [] pos'] X.env = (false, eval (Expr.Call (.Attribute o m apos) (e :: es) [] pos') X.env) :: starEach [] X.env := by rfl) :
    DE X (.Call (.Name "list" p) [.Call (.Attribute o m apos) (e :: es) [] pos'] [] pos) (tListG (tMethG C m (liftG X.K n sp) [] L2.E0 ta t)) (aListG C m n sp aa at1) :=
  ⟨pe_listG (pgen_meth he.pe c hm F (hr.mono (by omega)) hb .nil ha.pa hst hpl ht) hx noStop0 hr hg hmg (by decide +kernel) (by decide) (by decide) hs, se_listG he.se ha.sa⟩
/-- .. by a keyword -/
theorem run_gfnN {S : SpG} {pins : List (Addr × Obj)} {σ : L2.St} {H : Hp} {s : Shared} {us ws : List Value} {vs zs : List V} {nn : Nat} {cont : List V → Hp → Prop} {E1 : Value → Shared → Prop} (F : GFn X.prog X.w X.K X.mg X.base k g fd ps S) (hr : Room k X.A) (hb : KBn X.K fd ps nn ks gV' gV)
    (I : Inv X pins σ H s) (r : Vals vs us) (rz : Vals zs ws) (l1 : vs.length = nn) (l2 : zs.length = ks.length) (h : S (gV vs zs) H cont E) :
    wpAny (model X.prog X.w) X.A (call (.ref g) us (ks.zip ws)) (fun u s' => ∃ H1 sc ex, Inv X pins σ H1 sc ∧ ExOk X pins ex ∧ GMade X.prog X.w k X.stack H1 sc ex cont E u s') E1 s := by
  have r2 := hb.rel r rz
  refine wpAny_call (codeAny_mono (F.run X.A X.stack s H ⟨us, ks.zip ws⟩ (gV' us ws) (gV vs zs) cont E hr I.env0 (hb.to s us ws I.kIn (r.length.symm.trans l1) (rz.length.symm.trans l2)) r2 h) fun r s' hq => ?_)
  cases r with
  | error e => exact False.elim hq
  | ok fl =>
    cases fl with
    | ret u => exact ⟨H, s, [], I, .nil, hq⟩
    | next => exact False.elim hq
    | brk => exact False.elim hq
    | cont => exact False.elim hq
def tMethGK (C : Addr) (m : Str) (nk : Nat) (S : SpG) (gV : List V → List V → List V) (E : XK) (ta : TE) (t : TA) : TGen := fun σ H cont => ta σ H fun x H1 => ∃ a dx fs, x = .ref a ∧ H1 a = some (.ins C dx fs) ∧ fs.lookup m = none ∧
  t σ H1 fun zs H2 => zs.length = nk ∧ S (gV [x] zs) H2 cont E
def aListGK (C : Addr) (m : Str) (nk n : Nat) (sp : aGSp) (gD : List D → List D → List D) (x : aE) (y : aA) : aE := fun G M Q => x G M fun d M1 => (match d with
  | .obj C' gs => C' = C ∧ gs.lookup m = none
  | .ref p => (match M1 p with | some (.ins C' gs) => C' = C ∧ gs.lookup m = none | _ => False)
  | _ => False) ∧ y G M1 fun es M2 => es.length = nk ∧ (gD [d] es).length = n ∧ sp (gD [d] es) M2 fun outs M3 => Q (.list outs) M3
theorem de_listGK {sp : aGSp} {pl : Sem Bool} (hgd : ∀ (N : Hp) vs ds ws es, RelL X.K N vs ds → RelL X.K N ws es → ds.length = 1 → es.length = ks.length → RelL X.K N (gV vs ws) (gD ds es))
    (he : DE X o ta aa) (c : Cls X.K C) (hm : Meth X.K C m g) (F : GFn X.prog X.w X.K X.mg X.base k g fd ps (liftG X.K n sp)) (hr : Room (k + 3) X.A) (hb : KBn X.K fd ps 1 ks gV' gV) (hkw : DK X kws tk ak)
    (hg : Gl X "list") (hmg : X.mg "list" = none) (hx : Passes (L2.CX X.prog X.w) X L2.E0 := by exact fun _ _ _ _ _ _ _ ⟨_, _, _, _, _, _, _, _, _, _, _, _, h⟩ => h.elim)
    (hall : (backToKw pos' (keywordEach kws X.env)).all (·.1.isSome) = true := by rfl) (hks : (backToKw pos' (keywordEach kws X.env)).filterMap (·.1) = ks := by rfl)
    (hpl : ((backTo pos' (starEach [] X.env)).any (·.1) || (backToKw pos' (keywordEach kws X.env)).any (·.1.isNone)) = false := by rfl)
    (ht : eval (.Call (.Attribute o m apos) [] kws pos') X.env = (do
      let ov ← eval o X.env
      standAt apos.atName
      let (f, first) ← holding [ov] (getMethod ov m pl)
      callWith pos' f first (backTo pos' (starEach [] X.env)) (backToKw pos' (keywordEach kws X.env))) := by rfl)
    (hs : starEach [Expr.Call (.Attribute o m apos) [] kws pos'] X.env = (false, eval (Expr.Call (.Attribute o m apos) [] kws pos') X.env) :: starEach [] X.env := by rfl) :
    DE X (.Call (.Name "list" p) [.Call (.Attribute o m apos) [] kws pos'] [] pos) (tListG (tMethGK C m ks.length (liftG X.K n sp) gV L2.E0 ta tk)) (aListGK C m ks.length n sp gD aa ak) := by
  have pg : PGen X k (.Call (.Attribute o m apos) [] kws pos') (tMethGK C m ks.length (liftG X.K n sp) gV L2.E0 ta tk) L2.E0 := by
    refine ⟨fun pins s σ H cont I h => ?_⟩
    refine PySem.W.methodCall_KW (pl := pl) (thn (he.pe.run pins s σ H _ I h) fun u s1 ⟨x, H1, I1, rx, a, dx, fs, ex, ea, l, q⟩ => ?_) ht
    subst ex
    obtain rfl : u = Value.ref a := rx
    refine getmeth_ok I1 ea c hm l ?_
    refine PySem.W.callWith_KW0 (first := [.ref a]) (h₀ := X.base) I.ok.mod.kin hm.kp hall (thn (hkw.pk.run pos' pins _ σ H1 _ I1 q) fun ws s2 ⟨zs, H2, I3, rz, l2, q2⟩ => ⟨I3.kIn, ?_⟩) hpl
    rw [hks]
    exact run_gfnN (us := [.ref a]) (vs := [.ref a]) F (hr.mono (by omega)) hb I3 (.cons rfl .nil) rz rfl l2 q2
  refine ⟨pe_listG pg hx noStop0 hr hg hmg (by decide +kernel) (by decide) (by decide) hs, fun E0 G M N σ H C1 Q Qc q kk => ?_⟩
  refine he.se E0 G M N σ H C1 _ _ q fun d v M1 N1 H1 h1 C2 s1 r1 => ?_
  obtain ⟨h1, h3⟩ := h1
  obtain ⟨a, dx, fs, e, ea, l⟩ := inst_of C2 r1 h1
  refine ⟨a, dx, fs, e, ea, l, hkw.sa E0 G M1 N1 σ H1 C2 _ _ h3 fun es vs M2 N2 H2 h4 C3 s2 r2 => ?_⟩
  obtain ⟨l2, l3, h4⟩ := h4
  refine ⟨by rw [r2.length]; exact l2, gD [d] es, M2, N2, _, l3, C3.cm, hgd _ _ _ _ _ (.cons (r1.mono s2) .nil) r2 rfl l2, h4, fun outs outV M' N' H' q' fr cm r => ?_⟩
  intro p hp
  have C4 := C3.step fr cm
  exact (kk.from (s1.trans (s2.trans fr.nn))).new C4 hp q' fun N'' s e => .list e (r.mono s)
/-! ### C(..) -/
theorem new_inst {E0 : En} {G : Gm} {M1 : Mp} {N1 H1 : Hp} {σ : L2.St} {x dx : Addr} (C1 : CC X.K E0 G M1 N1 σ H1) (hx : H1 x = none) (hdx : H1 dx = none) :
    CM X.K (mupd M1 x (.ins C [])) N1 (upd (upd H1 dx (.own x)) x (.ins C dx [])) ∧ Fr M1 N1 H1 (mupd M1 x (.ins C [])) N1 (upd (upd H1 dx (.own x)) x (.ins C dx [])) := by
  obtain ⟨hN, hM⟩ := C1.cm.none hx
  constructor
  · refine cm_put (M := M1) (N := N1) (H := upd H1 dx (.own x)) ?_ hN (hasI upd_same .nil)
    exact ⟨fun a u e => by rw [upd_ne (ne_of_none (C1.cm.sm _ _ e) hdx)]; exact C1.cm.sm _ _ e, fun a c e => by
      obtain ⟨h2, h3⟩ := C1.cm.hm a c e
      exact ⟨h2, h3.mono (Same.refl _) fun o e => by rw [upd_ne (ne_of_none e hdx)]; exact e⟩⟩
  · refine ⟨Same.refl _, fun a u e m => ?_, fun a u e n => n, fun a u e => ?_⟩
    · have q1 : a ≠ x := ne_of_none e hx
      have q2 : a ≠ dx := ne_of_none e hdx
      exact ⟨by rw [upd_ne q1, upd_ne q2]; exact e, by rw [mupd_ne q1]; exact m⟩
    · have q1 : a ≠ x := ne_of_none e hx
      have q2 : a ≠ dx := ne_of_none e hdx
      exact ⟨u, by rw [upd_ne q1, upd_ne q2]; exact e⟩
theorem se_makeM {sp : aSp} (h : SA X.K t at1) : SE X.K (tMake C (lift X.K n sp) [] E t) (aMakeM C n sp at1) := by
  intro E0 G M N σ H CC' Q Qc q kk
  refine h E0 G M N σ H CC' _ _ q fun ds vs M1 N1 H1 h1 C1 s1 r1 => ?_
  intro x dx hx hdx hne
  rw [List.append_nil]
  obtain ⟨hN, hM⟩ := C1.cm.none hx
  obtain ⟨c2, f2⟩ := new_inst (C := C) C1 hx hdx
  refine ⟨.ref x :: ds, _, N1, _, by rw [List.length_cons]; exact h1.1, c2, .cons (.ref x) r1, h1.2 x hM, ?_⟩
  intro d v M' N' H' q' fr cm r
  obtain ⟨rfl, q'⟩ := q'
  cases r
  exact ⟨rfl, kk _ _ M' N' H' q' (C1.step (f2.trans fr) cm) (s1.trans fr.nn) (.ref x)⟩
theorem de_makeM {sp : aSp} (M : Mk X.K C g) (F : FnOk X.prog X.w X.K X.mg X.base CX k g fd ps (lift X.K n sp)) (hr : Room (k + 1) X.A) (hg : Gl X x) (hm : X.mg x = some (.ref C)) (hb : Binds X.K fd ps []) (hx : Passes CX X E)
    (ha : DA X (e :: es) t at1) (hdb : (x == ("__debug__" : Str)) = false := by decide) (he : starEach (e :: es) X.env = (false, eval e X.env) :: starEach es X.env := by rfl) (hpl : (backTo pos (starEach es X.env)).any (·.1) = false := by rfl) :
    DE X (.Call (.Name x p) (e :: es) [] pos) (tMake C (lift X.K n sp) [] E t) (aMakeM C n sp at1) := ⟨pe_make M F hr hg hm hb .nil hx ha.pa hdb he hpl, se_makeM ha.sa⟩
/-- C(k = v, ..), an instance that stands still behind its __init__ -/
theorem de_makeK {sp : aSp} (hgd : ∀ (N : Hp) vs ds ws es, RelL X.K N vs ds → RelL X.K N ws es → ds.length = 1 → es.length = ks.length → RelL X.K N (gV vs ws) (gD ds es))
    (M : Mk X.K C g) (F : FnOk X.prog X.w X.K X.mg X.base CX k g fd ps (lift X.K n sp)) (hr : Room (k + 1) X.A) (hg : Gl X x) (hm : X.mg x = some (.ref C)) (hb : KBn X.K fd ps 1 ks gV' gV) (hx : Passes CX X E) (hkw : DK X kws tk ak)
    (hall : (backToKw pos (keywordEach kws X.env)).all (·.1.isSome) = true := by rfl) (hks : (backToKw pos (keywordEach kws X.env)).filterMap (·.1) = ks := by rfl) (hdb : (x == ("__debug__" : Str)) = false := by decide)
    (hpl : ((backTo pos (starEach [] X.env)).any (·.1) || (backToKw pos (keywordEach kws X.env)).any (·.1.isNone)) = false := by rfl) :
    DE X (.Call (.Name x p) [] kws pos) (tMakeK C 0 ks.length (lift X.K n sp) gV E tNil tk) (aMakeK C ks.length n sp gD ak) := by
  refine ⟨pe_makeK0 M F hr hg hm hb hx hkw.pk hall hks hdb hpl, fun E0 G M N σ H CC' Q Qc q kk => ?_⟩
  refine hkw.sa E0 G M N σ H CC' _ _ q fun es vs M1 N1 H1 h1 C1 s1 r1 => ?_
  refine ⟨rfl, by rw [r1.length]; exact h1.1, fun x dx hx hdx hne => ?_⟩
  obtain ⟨hN, hM⟩ := C1.cm.none hx
  obtain ⟨c2, f2⟩ := new_inst (C := C) C1 hx hdx
  obtain ⟨h2, h3⟩ := h1.2 x hM
  refine ⟨gD [.ref x] es, _, N1, _, h2, c2, hgd _ _ _ _ _ (.cons (.ref x) .nil) r1 rfl h1.1, h3, ?_⟩
  intro d v M' N' H' q' fr cm r
  obtain ⟨rfl, gs, e, q'⟩ := q'
  cases r
  refine ⟨rfl, ?_⟩
  have C3 : CC X.K E0 G M' N' σ H' := C1.step (f2.trans fr) cm
  obtain ⟨hn, dx', fs, ho, rf⟩ := cm.hm x _ e
  have h0 : E0.H x = none := by
    cases w : E0.H x with
    | none => rfl
    | some o =>
      obtain ⟨o', e'⟩ := C1.fr.dom x o w
      rw [e'] at hx; cases hx
  have C4 := C3.freeze hn ho h0
  exact (kk.from (s1.trans (fr.nn.trans (same_new hn)))).at C4 q' (.obj upd_same (rf.mono (same_new hn)))
end
/-! ### an instance of ours stands still -/
section
variable {K : PySem.W.Frag} {M0 M M' : Mp} {Q : QD}
theorem cv_ins {a C : Addr} {gs : List (Str × D)} (h : M a = some (.ins C gs)) (h0 : M0 a = none) : Cv K M0 (.ref a) M (.obj C gs) (mdel M a) := fun N0 H0 N H v f c r => by
  have e := rel_ref r
  subst e
  obtain ⟨hN, dx, xs, hH, rx⟩ := c.hm a _ h
  have C : CC K ⟨M0, N0, H0⟩ [] M N [] H := ⟨f, c, rfl, fun i d e => by simp at e⟩
  have C2 := C.freeze hN hH (f.h0 h h0)
  exact ⟨_, C2.fr, C2.cm, .obj upd_same (rx.mono (same_new hN))⟩
theorem Fin.ins {a C : Addr} {gs : List (Str × D)} (h : M a = some (.ins C gs)) (h0 : M0 a = none) (s : Sub M' (mdel M a)) (q : Q (.obj C gs) M') : Fin K M0 Q (.ref a) M := ⟨_, _, (cv_ins h h0).trans (cv_sub s), q⟩
end
/-! ### forms -/
section
variable {G : Gm} {M : Mp} {Q : QD} {x : aE} {y : aA} {C : Addr} {m : Str} {n nk : Nat} {sp : aSp} {gsp : aGSp} {gD : List D → List D → List D} {d : D} {as : List aE} {acc z a b : Str} {neg : Bool} {L : List Str} {QL : List D → Mp → Prop}
theorem go_split (h : a.length ≤ 1000000) (hb : (b.length == 0) = false) (q : Q (.list ((Txt.split a b).map .str)) M) : fSplit (.str a) [.str b] M Q := ⟨h, hb, q⟩
theorem go_inW {p : Addr} (q : Q (.bl (if neg then !decide (z ∈ L) else decide (z ∈ L))) M) : fInW p L neg (.str z) (.ref p) M Q := ⟨z, rfl, rfl, q⟩
theorem go_inSign {c : Nat} (q : Q (.bl (if neg then !decide (c ∈ z.cps.toList) else decide (c ∈ z.cps.toList))) M) : fIn neg (.str ⟨#[c]⟩) (.str z) M Q := by
  show Q _ M
  rw [PySem.StrLaws.found_one z c]
  exact q
theorem go_fmtS (h : z.length ≤ 1000000) (q : Q (.str z) M) : fFmt (.str z) M Q := ⟨h, q⟩
def kJs (as : List aE) (acc : Str) (G : Gm) (Q : QD) (d : D) (M : Mp) : Prop := ∃ y, d = .str y ∧ (acc ++ y).length ≤ 1000000 ∧ aJs as (acc ++ y) G M Q
theorem go_jsN (q : Q (.str acc) M) : aJs [] acc G M Q := q
theorem go_jsC (h : x G M (kJs as acc G Q)) : aJs (x :: as) acc G M Q := h
theorem go_kjs (h : (acc ++ z).length ≤ 1000000) (q : aJs as (acc ++ z) G M Q) : kJs as acc G Q (.str z) M := ⟨z, rfl, h, q⟩
theorem go_smeth (h : x G M fun d M1 => d = .ref C ∧ y G M1 fun ds M2 => ds.length = n ∧ sp ds M2 Q) : aSMeth C n sp x y G M Q := h
theorem go_smethK (h : x G M fun d M1 => d = .ref C ∧ y G M1 fun es M2 => es.length = nk ∧ (gD [] es).length = n ∧ sp (gD [] es) M2 Q) : aSMethK C nk n sp gD x y G M Q := h
theorem go_methK (h : x G M fun d M1 => kMeth C m d M1 ∧ y G M1 fun es M2 => es.length = nk ∧ (gD [d] es).length = n ∧ sp (gD [d] es) M2 Q) : aMethK C m nk n sp gD x y G M Q := h
theorem go_listG (h : x G M fun d M1 => kMeth C m d M1 ∧ y G M1 fun ds M2 => ds.length + 1 = n ∧ gsp (d :: ds) M2 fun outs M3 => Q (.list outs) M3) : aListG C m n gsp x y G M Q := h
theorem go_listGK (h : x G M fun d M1 => kMeth C m d M1 ∧ y G M1 fun es M2 => es.length = nk ∧ (gD [d] es).length = n ∧ gsp (gD [d] es) M2 fun outs M3 => Q (.list outs) M3) : aListGK C m nk n gsp gD x y G M Q := h
theorem go_makeK (h : y G M fun es M1 => es.length = nk ∧ ∀ x, M1 x = none → (gD [.ref x] es).length = n ∧
  sp (gD [.ref x] es) (mupd M1 x (.ins C [])) fun r M2 => r = .non ∧ ∃ gs, M2 x = some (.ins C gs) ∧ Q (.obj C gs) (mdel M2 x)) : aMakeK C nk n sp gD y G M Q := h
theorem go_makeM (h : y G M fun ds M1 => ds.length + 1 = n ∧ ∀ x, M1 x = none → sp (.ref x :: ds) (mupd M1 x (.ins C [])) fun r M2 => r = .non ∧ Q (.ref x) M2) : aMakeM C n sp y G M Q := h
theorem go_genFor {src : aA} {g : aG} (h : src G M fun ds M1 => ds.length ≤ 1000000 ∧ genGo g x ds [] G M1 QL) : aGenFor src g x G M QL := h
/-- a generator's loop by its turns -/
theorem go_genI {g : aG} {ds : List D} (I : Nat → List D → Gm → Mp → Prop) (h0 : I 0 [] G M)
    (hs : ∀ i d acc G M (K : Gm → D → Mp → Prop), ds[i]? = some d → I i acc G M → (∀ G y M, I (i + 1) (acc ++ [y]) G M → K G y M) → g d G M fun G' M' => x G' M' (K G')) (hd : ∀ acc G M, I ds.length acc G M → QL acc M) : genGo g x ds [] G M QL := by
  have go : ∀ (r : List D) (i : Nat) (acc : List D) (G : Gm) (M : Mp), ds.drop i = r → i ≤ ds.length → I i acc G M → genGo g x r acc G M QL := by
    intro r
    induction r with
    | nil =>
      intro i acc G M e hi h
      have : i = ds.length := by have := congrArg List.length e; simp at this; omega
      subst this
      exact hd _ _ _ h
    | cons d r ih =>
      intro i acc G M e hi h
      have hlt : i < ds.length := by
        have := congrArg List.length e
        simp at this
        omega
      have e1 : ds[i]? = some d := by
        have := congrArg (fun l => l[0]?) e
        simpa using this
      have e2 : ds.drop (i + 1) = r := by
        have := congrArg List.tail e
        simpa using this
      exact hs i d acc G M (fun G' y M' => genGo g x r (acc ++ [y]) G' M' QL) e1 h fun G y M h => ih (i + 1) _ _ _ e2 hlt h
  exact go ds 0 [] G M rfl (Nat.zero_le _) h0
end
end DL

set_option Elab.async false
set_option linter.all false
set_option maxRecDepth 100000
/-! DX20: a written dict with text keys, as the head knows it; texts of the module. -/
namespace DL
open PySem PySem.Spec PyProof.Rows L2
theorem de_globS2 {X : Cx} {x : Str} {z : Str} {pos : Pos} (hg : Gl X x) (hm : ∃ t, X.mg x = some (.str z t)) (hd : (x == ("__debug__" : Str)) = false := by decide) : DE X (.Name x pos) (tC (.str z)) (aC (.str z)) :=
  let ⟨_, h⟩ := hm
  de_globS hg h hd
theorem de_globI {X : Cx} {x : Str} {i : Int} {t : Tok} {pos : Pos} (hg : Gl X x) (hm : X.mg x = some (.int i t)) (hd : (x == ("__debug__" : Str)) = false := by decide) : DE X (.Name x pos) (tC (.int i)) (aC (.int i)) := de_glob hg hm ⟨_, rfl⟩ (fun _ => .int _) hd
theorem de_globI2 {X : Cx} {x : Str} {i : Int} {pos : Pos} (hg : Gl X x) (hm : ∃ t, X.mg x = some (.int i t)) (hd : (x == ("__debug__" : Str)) = false := by decide) : DE X (.Name x pos) (tC (.int i)) (aC (.int i)) :=
  let ⟨_, h⟩ := hm
  de_globI hg h hd
theorem find_keys {P : Params} (z : Str) : ∀ {l : List DictEntry} {ks : List Str}, l.map He.keyOf = He.keysIn P ks → ∃ r : Option DictEntry, l.find? (·.key.isStr z) = r ∧ r.isSome = decide (z ∈ ks) ∧ l.any (·.refKey) = false
  | [], [], _ => ⟨none, rfl, by simp, rfl⟩
  | [], _ :: _, h => by cases h
  | _ :: _, [], h => by cases h
  | e :: r, k :: ks, h => by
    have h1 : He.keyOf e :: r.map He.keyOf = some (k, PyData.keyHash P k) :: He.keysIn P ks := h
    injection h1 with h2 h3
    obtain ⟨x, e1, e2, e3⟩ := find_keys z h3
    unfold He.keyOf at h2
    split at h2
    · rename_i y t q
      have h4 := Option.some.inj h2
      obtain ⟨rfl, h5⟩ := Prod.mk.inj h4
      have ek : e.key.isStr z = decide (z = y) := by
        rw [q]
        show (y == z) = decide (z = y)
        by_cases w : z = y
        · subst w; simp
        · simp [w, Ne.symm w]
      have er : e.refKey = false := by
        unfold DictEntry.refKey
        rw [q]
      by_cases w : z = y
      · refine ⟨some e, by rw [List.find?_cons_of_pos (by rw [ek]; simp [w])], by simp [w], by rw [List.any_cons, er, e3]; rfl⟩
      · refine ⟨x, by rw [List.find?_cons_of_neg (by rw [ek]; simp [w])]; exact e1, by rw [e2]; simp [w], by rw [List.any_cons, er, e3]; rfl⟩
    · cases h2
theorem kdt_of {K : PySem.W.Frag} {w : World} {d : Addr} {ks : List Str} (h : He.dicW K d = some (He.keysIn w.params ks)) : KdT K w d ks := by
  refine ⟨He.dicW_ok h, fun z => ?_⟩
  unfold He.dicW at h
  unfold PySem.W.nsIn
  split at h
  · rename_i c es n sl hl
    rw [hl]
    split at h
    · have h2 := Option.some.inj h
      obtain ⟨r, e1, e2, e3⟩ := find_keys z h2
      dsimp only
      rw [e1]
      cases r with
      | none => exact ⟨none, by rw [e3]; rfl, e2⟩
      | some e => exact ⟨some e.val, rfl, e2⟩
    · cases h
  · cases h
def fBool : VL := fun ds M Q => match ds with
  | [.bl k] => Q (.bl k) M
  | [.int i] => Q (.bl (i != 0)) M
  | _ => False
theorem sl_bool {K : PySem.W.Frag} : SL K (fun xs H Q => (∃ i, xs = [.int i] ∧ Q (.bl (i != 0)) H) ∨ ∃ k, xs = [.bl k] ∧ Q (.bl k) H) fBool := by
  intro E G M N σ H C xs ds rx Q Qc h k
  unfold fBool at h
  split at h
  · obtain ⟨v, rfl, r⟩ := rel1 rx
    have e := rel_bl r
    subst e
    exact .inr ⟨_, rfl, k.at C h (.bl _)⟩
  · obtain ⟨v, rfl, r⟩ := rel1 rx
    have e := rel_int r
    subst e
    exact .inl ⟨_, rfl, k.at C h (.bl _)⟩
  · exact h.elim
theorem go_ixC {M : Mp} {Q : QD} {z : Str} {i : Int} {c : Nat} (h : z.length ≤ 1000000) (e : atI z.cps.toList i = some c) (q : Q (.str ⟨#[c]⟩) M) : fIx (.str z) (.int i) M Q := by
  refine ⟨h, ?_⟩
  rw [e]
  exact q
def kStr (QA : List D → Mp → Prop) (d : D) (M : Mp) : Prop := match d with | .str z => QA (signsD z) M | _ => False
theorem go_istr {x : aE} {G : Gm} {M : Mp} {QA : List D → Mp → Prop} (h : x G M (kStr QA)) : aiStr x G M QA := h
theorem go_kstr {M : Mp} {QA : List D → Mp → Prop} {z : Str} (q : QA (signsD z) M) : kStr QA (.str z) M := q
/-- a comprehension over what is told of plain things -/
theorem go_lcX {α : Type _} {xs : List α} {f F : α → D} {g : aG} {t : aT} {x : aE} {G : Gm} {M : Mp} {QA : List D → Mp → Prop}
    (h : ∀ (z : α) (KY : D → Mp → Prop) (KN : Mp → Prop), z ∈ xs → KY (F z) M → g (f z) G M fun G' M1 => t G' M1 fun b M2 => if b = true then x G' M2 KY else KN M2) (q : QA (xs.map F) M) : lcGo g t x G (xs.map f) [] M QA := by
  have go : ∀ (ys : List α) (acc : List D), (∀ z ∈ ys, z ∈ xs) → QA (acc ++ ys.map F) M → lcGo g t x G (ys.map f) acc M QA := by
    intro ys
    induction ys with
    | nil => intro acc _ q; rw [List.map_nil, List.append_nil] at q; exact q
    | cons y ys ih =>
      intro acc hs q
      exact h y _ _ (hs y (by simp)) (ih (acc ++ [F y]) (fun z hz => hs z (List.mem_cons_of_mem _ hz)) (by rw [List.append_assoc]; exact q))
  exact go xs [] (fun _ h => h) q
/-- .. with a pick -/
theorem go_lcXP {α : Type _} {xs : List α} {f F : α → D} (p : α → Bool) {g : aG} {t : aT} {x : aE} {G : Gm} {M : Mp} {QA : List D → Mp → Prop}
    (h : ∀ (z : α) (KY : D → Mp → Prop) (KN : Mp → Prop), z ∈ xs → (p z = true → KY (F z) M) → (p z = false → KN M) → g (f z) G M fun G' M1 => t G' M1 fun b M2 => if b = true then x G' M2 KY else KN M2) (q : QA ((xs.filter p).map F) M) : lcGo g t x G (xs.map f) [] M QA := by
  have go : ∀ (ys : List α) (acc : List D), (∀ z ∈ ys, z ∈ xs) → QA (acc ++ (ys.filter p).map F) M → lcGo g t x G (ys.map f) acc M QA := by
    intro ys
    induction ys with
    | nil => intro acc _ q; rw [List.filter_nil, List.map_nil, List.append_nil] at q; exact q
    | cons y ys ih =>
      intro acc hs q
      refine h y _ _ (hs y (by simp)) (fun e => ih (acc ++ [F y]) (fun z hz => hs z (List.mem_cons_of_mem _ hz)) ?_) (fun e => ih acc (fun z hz => hs z (List.mem_cons_of_mem _ hz)) ?_)
      · rw [List.filter_cons_of_pos e] at q
        rw [List.append_assoc]; exact q
      · rw [List.filter_cons_of_neg (by rw [e]; simp)] at q
        exact q
  exact go xs [] (fun _ h => h) q
theorem go_boolB {M : Mp} {Q : QD} {k : Bool} (q : Q (.bl k) M) : fBool [.bl k] M Q := q
theorem go_lenD {M : Mp} {Q : QD} {gs : List (Key × D)} {a : Addr} (h : M a = some (.dK gs)) (q : Q (.int (gs.length : Nat)) M) : fLen [.ref a] M Q := by
  unfold fLen
  simp only [itemsM, h]
  exact q
end DL

/-! DInst: the unconditional rules as instances, found by the head of what is read. -/
set_option Elab.async false
set_option linter.all false
set_option maxRecDepth 100000
namespace DL
open PySem PySem.Spec PyProof.Rows L2
class GoR (P : Prop) (Q : outParam Prop) : Prop where
  imp : Q → P
theorem go_r {P Q : Prop} [h : GoR P Q] (q : Q) : P := h.imp q
class GoS (P : Prop) (Q : outParam Prop) : Prop where
  imp : Q → P
instance (priority := 10) gos_nil {P : Prop} : GoS P P := ⟨fun h => h⟩
instance gos_cons {P P' Q : Prop} [h : GoR P P'] [h' : GoS P' Q] : GoS P Q := ⟨fun q => h.imp (h'.imp q)⟩
theorem go_s {P P' Q : Prop} [h : GoR P P'] [h' : GoS P' Q] (q : Q) : P := h.imp (h'.imp q)
section
variable {m0 M : Mp} {nx bk ct : Gm → Mp → Prop} {rt Q : QD} {G G' : Gm} {x : aE} {gs : aGs} {i j n : Nat} {d : D} {o : Option D} {ds : List D} {QG : Gm → Mp → Prop} {f : V2}
/-- looked up, stored, counted: by the shape of the list -/
class GAt (G : Gm) (i : Nat) (d : outParam D) : Prop where
  at' : G[i]? = some (some d)
instance i_gat0 : GAt (some d :: G) 0 d := ⟨rfl⟩
instance i_gatS [h : GAt G i d] : GAt (o :: G) (i + 1) d := ⟨by rw [List.getElem?_cons_succ]; exact h.at'⟩
class GSet (G : Gm) (i : Nat) (d : D) (G' : outParam Gm) : Prop where
  st : G.set i (some d) = G'
instance i_gset0 : GSet (o :: G) 0 d (some d :: G) := ⟨rfl⟩
instance i_gsetS [h : GSet G i d G'] : GSet (o :: G) (i + 1) d (o :: G') := ⟨by rw [List.set_cons_succ, h.st]⟩
class LenIs (ds : List D) (n : Nat) : Prop where
  len : ds.length = n
instance i_len0 : LenIs [] 0 := ⟨rfl⟩
instance i_lenS [h : LenIs ds n] : LenIs (d :: ds) (n + 1) := ⟨by rw [List.length_cons, h.len]⟩
instance i_go_var [h : GAt G i d] : GoR (aVar i G M Q) (Q d M) := ⟨go_var h.at'⟩
instance i_go_name [h : GSet G j d G'] : GoR (agName j d G M QG) (QG G' M) := ⟨go_name h.st⟩
instance i_go_tup [h : LenIs ds n] : GoR (agTup n gs (.tup ds) G M QG) (gs ds G M QG) := ⟨go_tup h.len⟩
instance i_go_aug [h : GAt G j d] : GoR (asAug j x f ⟨m0, nx, rt, bk, ct⟩ G M) (x G M fun e M1 => f d e M1 fun z M2 => nx (G.set j (some z)) M2) := ⟨go_aug h.at'⟩
end
section
variable {m0 M : Mp} {nx bk ct : Gm → Mp → Prop} {rt Q : QD} {G : Gm} {t u : aS} {x y z : aE} {g : aG} {gs : aGs} {c c1 c2 : aT} {al a2 : aA} {i j l n m : Nat} {d e : D} {ds es : List D}
  {QT : Bool → Mp → Prop} {QA : List D → Mp → Prop} {QG : Gm → Mp → Prop} {a b : Addr} {k : Bool} {K : PySem.W.Frag}
instance i_go_sAsg  : GoR (asSeq (asAsg x g) u ⟨m0, nx, rt, bk, ct⟩ G M) (asAsg x g ⟨m0, cvU u ⟨m0, nx, rt, bk, ct⟩, rt, bk, ct⟩ G M) := ⟨go_sAsg⟩
instance i_go_sDrop  : GoR (asSeq (asDrop x) u ⟨m0, nx, rt, bk, ct⟩ G M) (asDrop x ⟨m0, cvU u ⟨m0, nx, rt, bk, ct⟩, rt, bk, ct⟩ G M) := ⟨go_sDrop⟩
instance i_go_sPar  : GoR (asSeq (asPar i j al) u ⟨m0, nx, rt, bk, ct⟩ G M) (asPar i j al ⟨m0, cvU u ⟨m0, nx, rt, bk, ct⟩, rt, bk, ct⟩ G M) := ⟨go_sPar⟩
instance i_go_sPar3  : GoR (asSeq (asPar3 i j l al) u ⟨m0, nx, rt, bk, ct⟩ G M) (asPar3 i j l al ⟨m0, cvU u ⟨m0, nx, rt, bk, ct⟩, rt, bk, ct⟩ G M) := ⟨go_sPar3⟩
instance i_go_sAug {f : V2} : GoR (asSeq (asAug j x f) u ⟨m0, nx, rt, bk, ct⟩ G M) (asAug j x f ⟨m0, cvU u ⟨m0, nx, rt, bk, ct⟩, rt, bk, ct⟩ G M) := ⟨go_sAug⟩
instance i_go_sFld {f : Str} : GoR (asSeq (asFld K x y f) u ⟨m0, nx, rt, bk, ct⟩ G M) (asFld K x y f ⟨m0, cvU u ⟨m0, nx, rt, bk, ct⟩, rt, bk, ct⟩ G M) := ⟨go_sFld⟩
instance i_go_sDPut  : GoR (asSeq (asDPut x y z) u ⟨m0, nx, rt, bk, ct⟩ G M) (asDPut x y z ⟨m0, cvU u ⟨m0, nx, rt, bk, ct⟩, rt, bk, ct⟩ G M) := ⟨go_sDPut⟩
instance i_go_cvU  : GoR (cvU u ⟨m0, nx, rt, bk, ct⟩ G M) (u ⟨m0, nx, rt, bk, ct⟩ G M) := ⟨go_cvU⟩
instance i_go_next  : GoR (asNext ⟨m0, nx, rt, bk, ct⟩ G M) (nx G M) := ⟨go_next⟩
instance i_go_break  : GoR (asBreak ⟨m0, nx, rt, bk, ct⟩ G M) (bk G M) := ⟨go_break⟩
instance i_go_cont  : GoR (asCont ⟨m0, nx, rt, bk, ct⟩ G M) (ct G M) := ⟨go_cont⟩
instance i_go_drop  : GoR (asDrop x ⟨m0, nx, rt, bk, ct⟩ G M) (x G M fun _ M1 => nx G M1) := ⟨go_drop⟩
instance i_go_ret  : GoR (asRet x ⟨m0, nx, rt, bk, ct⟩ G M) (x G M rt) := ⟨go_ret⟩
instance i_go_retN  : GoR (asRetN ⟨m0, nx, rt, bk, ct⟩ G M) (rt .non M) := ⟨go_retN⟩
instance i_go_if  : GoR (asIf c t u ⟨m0, nx, rt, bk, ct⟩ G M) (c G M fun b M1 => if b = true then t ⟨m0, nx, rt, bk, ct⟩ G M1 else u ⟨m0, nx, rt, bk, ct⟩ G M1) := ⟨go_if⟩
instance i_go_asg  : GoR (asAsg x g ⟨m0, nx, rt, bk, ct⟩ G M) (x G M fun d M1 => g d G M1 nx) := ⟨go_asg⟩
instance i_go_par  : GoR (asPar i j al ⟨m0, nx, rt, bk, ct⟩ G M) (al G M (kPar i j nx G)) := ⟨go_par⟩
instance i_go_par3  : GoR (asPar3 i j l al ⟨m0, nx, rt, bk, ct⟩ G M) (al G M (kPar3 i j l nx G)) := ⟨go_par3⟩
instance i_go_for {src : aA} : GoR (asFor src g t ⟨m0, nx, rt, bk, ct⟩ G M) (src G M fun ds M1 => forGo g t ds ⟨m0, nx, rt, bk, ct⟩ G M1) := ⟨go_for⟩
instance i_go_gcons  : GoR (agCons g gs (d :: ds) G M QG) (g d G M fun G' M' => gs ds G' M' QG) := ⟨go_gcons⟩
instance i_go_gnil  : GoR (agNil [] G M QG) (QG G M) := ⟨go_gnil⟩
instance i_go_subL  : GoR (agSubL x y d G M QG) (x G M fun o M1 => y G M1 (kSub G d QG o)) := ⟨go_subL⟩
instance i_go_c  : GoR (aC d G M Q) (Q d M) := ⟨go_c⟩
instance i_go_bin {f : V2} : GoR (aBin f x y G M Q) (x G M fun d M1 => y G M1 fun e M2 => f d e M2 Q) := ⟨go_bin⟩
instance i_go_un {f : V1} : GoR (aUn f x G M Q) (x G M fun d M1 => f d M1 Q) := ⟨go_un⟩
instance i_go_anil  : GoR (aNil G M QA) (QA [] M) := ⟨go_anil⟩
instance i_go_acons  : GoR (aCons x al G M QA) (x G M fun d M1 => al G M1 fun ds M2 => QA (d :: ds) M2) := ⟨go_acons⟩
instance i_go_atup  : GoR (aTup al G M Q) (al G M fun ds M1 => ds.length ≤ 1000000 ∧ Q (.tup ds) M1) := ⟨go_atup⟩
instance i_go_alst  : GoR (aLst al G M Q) (al G M fun ds M1 => ds.length ≤ 1000000 ∧ Q (.list ds) M1) := ⟨go_alst⟩
instance i_go_alstM  : GoR (aLstM al G M Q) (al G M fun ds M1 => ds.length ≤ 1000000 ∧ ∀ p, M1 p = none → Q (.ref p) (mupd M1 p (.lst ds))) := ⟨go_alstM⟩
instance i_go_cb {f : VL} : GoR (aCB f al G M Q) (al G M fun ds M1 => f ds M1 Q) := ⟨go_cb⟩
instance i_go_bm {T : String} {f : VM} : GoR (aBM T f x al G M Q) (x G M fun d M1 => tyD M1 d = some T ∧ al G M1 fun ds M2 => f d ds M2 Q) := ⟨go_bm⟩
instance i_go_bm0 {T : String} {f : VM} : GoR (aBM0 T f x G M Q) (x G M fun d M1 => tyD M1 d = some T ∧ f d [] M1 Q) := ⟨go_bm0⟩
instance i_go_call {sp : aSp} : GoR (aCall n sp al G M Q) (al G M fun ds M1 => ds.length = n ∧ sp ds M1 Q) := ⟨go_call⟩
instance i_go_test  : GoR (aTest x G M QT) (x G M (kTest QT)) := ⟨go_test⟩
instance i_go_ktest  : GoR (kTest QT (.bl k) M) (QT k M) := ⟨go_ktest⟩
instance i_go_tru  : GoR (aTru x G M QT) (x G M (kTru QT)) := ⟨go_tru⟩
instance i_go_tand  : GoR (atAnd c1 c2 G M QT) (c1 G M fun b M1 => if b = true then c2 G M1 QT else QT false M1) := ⟨go_tand⟩
instance i_go_tor  : GoR (atOr c1 c2 G M QT) (c1 G M fun b M1 => if b = true then QT true M1 else c2 G M1 QT) := ⟨go_tor⟩
instance i_go_tnot  : GoR (atNot c1 G M QT) (c1 G M fun b M1 => QT (!b) M1) := ⟨go_tnot⟩
instance i_go_andV  : GoR (aAndV x y G M Q) (x G M (kAndV G y Q)) := ⟨go_andV⟩
instance i_go_kandV  : GoR (kAndV G y Q (.bl k) M) (if k = true then y G M Q else Q (.bl false) M) := ⟨go_kandV⟩
instance i_go_orV  : GoR (aOrV x y G M Q) (x G M (kOrV G y Q)) := ⟨go_orV⟩
instance i_go_korV  : GoR (kOrV G y Q (.bl k) M) (if k = true then Q (.bl true) M else y G M Q) := ⟨go_korV⟩
instance i_go_tyes  : GoR (atYes G M QT) (QT true M) := ⟨go_tyes⟩
instance i_go_addI {i j : Int} : GoR (fAdd (.int i) (.int j) M Q) (Q (.int (i + j)) M) := ⟨go_addI⟩
instance i_go_fI0 {g : Int → Int → D} {i j : Int} : GoR (fI0 g (.int i) (.int j) M Q) (Q (g i j) M) := ⟨go_fI0⟩
instance i_go_neg {i : Int} : GoR (fNeg (.int i) M Q) (Q (.int (-i)) M) := ⟨go_neg⟩
instance i_go_notB  : GoR (fNot (.bl k) M Q) (Q (.bl (!k)) M) := ⟨go_notB⟩
instance i_go_eqI {i j : Int} : GoR (fEq (.int i) (.int j) M Q) (Q (.bl (i == j)) M) := ⟨go_eqI⟩
instance i_go_neI {i j : Int} : GoR (fNe (.int i) (.int j) M Q) (Q (.bl (!(i == j))) M) := ⟨go_neI⟩
instance i_go_eqB {i j : Bool} : GoR (fEq (.bl i) (.bl j) M Q) (Q (.bl (i == j)) M) := ⟨go_eqB⟩
instance i_go_neB {i j : Bool} : GoR (fNe (.bl i) (.bl j) M Q) (Q (.bl (!(i == j))) M) := ⟨go_neB⟩
instance i_go_int {i : Int} : GoR (fInt [.int i] M Q) (Q (.int i) M) := ⟨go_int⟩
instance i_go_abs {i : Int} : GoR (fAbs [.int i] M Q) (Q (.int (if i < 0 then -i else i)) M) := ⟨go_abs⟩
instance i_go_iseq  : GoR (aiSeq x G M QA) (x G M (kItems QA)) := ⟨go_iseq⟩
instance i_go_rng1  : GoR (aiRng1 al G M QA) (al G M (kRng1 QA)) := ⟨go_rng1⟩
instance i_go_rng2  : GoR (aiRng2 al G M QA) (al G M (kRng2 QA)) := ⟨go_rng2⟩
instance i_go_zip  : GoR (aiZip al G M QA) (al G M (kZip QA)) := ⟨go_zip⟩
instance i_go_fld {f : Str} : GoR (aFld K x f G M Q) (x G M (kFld K f Q)) := ⟨go_fld⟩
instance i_go_meth {C : Addr} {mm : Str} {sp : aSp} : GoR (aMeth C mm n sp x al G M Q) (x G M fun d M1 => kMeth C mm d M1 ∧ al G M1 fun ds M2 => ds.length + 1 = n ∧ sp (d :: ds) M2 Q) := ⟨go_meth⟩
instance i_go_setF {f : Str} : GoR (asFld K x y f ⟨m0, nx, rt, bk, ct⟩ G M) (y G M fun v M1 => x G M1 (kSetF K f G nx v)) := ⟨go_setF⟩
instance i_go_dput {v : aE} : GoR (asDPut x y v ⟨m0, nx, rt, bk, ct⟩ G M) (v G M fun v M1 => x G M1 fun d M2 => y G M2 (kDPut G nx v d)) := ⟨go_dput⟩
instance i_go_make {C : Addr} {sp : aSp} : GoR (aMake C n sp al G M Q) (al G M fun ds M1 => ds.length + 1 = n ∧ ∀ x, M1 x = none →
  sp (.ref x :: ds) (mupd M1 x (.ins C [])) fun r M2 => r = .non ∧ ∃ gs, M2 x = some (.ins C gs) ∧ Q (.obj C gs) (mdel M2 x)) := ⟨go_make⟩
variable {QP : List (D × D) → Mp → Prop} {ps : List (aE × aE)} {QO : Option Int → Mp → Prop}
instance i_go_pnil  : GoR (aPairs [] G M QP) (QP [] M) := ⟨go_pnil⟩
instance i_go_pcons  : GoR (aPairs ((x, y) :: ps) G M QP) (x G M fun d M1 => y G M1 fun e M2 => aPairs ps G M2 fun qs M3 => QP ((d, e) :: qs) M3) := ⟨go_pcons⟩
instance i_go_dispK  : GoR (aDispKM ps G M Q) (aPairs ps G M (kDisK Q)) := ⟨go_dispK⟩
instance i_go_dispT  : GoR (aDispTM ps G M Q) (aPairs ps G M (kDisT Q)) := ⟨go_dispT⟩
instance i_go_sl {f : D → Option Int → Option Int → Mp → QD → Prop} {lo hi : aO} : GoR (aSl f x lo hi G M Q) (x G M fun d M1 => lo G M1 fun lo M2 => hi G M2 fun hi M3 => f d lo hi M3 Q) := ⟨go_sl⟩
instance i_go_onone  : GoR (aoNone G M QO) (QO none M) := ⟨go_onone⟩
instance i_go_osome  : GoR (aoSome x G M QO) (x G M (kPart QO)) := ⟨go_osome⟩
instance i_go_kpart {i : Int} : GoR (kPart QO (.int i) M) (QO (some i) M) := ⟨go_kpart⟩
instance i_go_chain {f g : V2} {z : aE} : GoR (aChain f g x y z G M Q) (x G M fun d M1 => y G M1 fun e M2 => f d e M2 (kChain G g z Q e)) := ⟨go_chain⟩
instance i_go_kchain {g : V2} {z : aE} : GoR (kChain G g z Q d (.bl k) M) (if k = true then z G M fun w M4 => g d w M4 Q else Q (.bl false) M) := ⟨go_kchain⟩
end
section
variable {K : PySem.W.Frag} {M0 M M' : Mp} {d : D} {Q : QD} {L : List Addr}
end
section
variable {M : Mp} {G : Gm} {x : aE} {g : aG} {t : aT} {ds : List D} {QA : List D → Mp → Prop}
end
section
variable {K : PySem.W.Frag} {M : Mp} {d : D} {Q : QD} {n t : String} {b : Bool} {ts : List D} {ns : List String}
end
instance i_go_callN {n m nn : Nat} {sp : aSp} {gD : List D → List D → List D} {al a2 : aA} {G : Gm} {M : Mp} {Q : QD} : GoR (aCallN n m nn sp gD al a2 G M Q) (al G M fun ds M1 => a2 G M1 fun es M2 => ds.length = n ∧ es.length = m ∧ (gD ds es).length = nn ∧ sp (gD ds es) M2 Q) := ⟨go_callN⟩
section
variable {X : Cx} {K : PySem.W.Frag} {e st : Expr} {lo hi : Option Expr} {te : TE} {tl th ts : TO} {ae : aE} {al ah as : aO} {p3 pos : Pos}
end
instance i_go_sl3 {x : aE} {l u s : aO} {G : Gm} {M : Mp} {Q : QD} : GoR (aSl3 x l u s G M Q) (x G M fun d M1 => l G M1 fun lo M2 => u G M2 fun hi M3 => s G M3 fun st M4 => kSl3 Q d lo hi st M4) := ⟨go_sl3⟩
instance i_go_enum {al : aA} {G : Gm} {M : Mp} {QA : List D → Mp → Prop} : GoR (aiEnum al G M QA) (al G M (kEnum QA)) := ⟨go_enum⟩
section
variable {X : Cx} {K : PySem.W.Frag} {a b : Expr} {ta tb : TE} {aa ab : aE} {pos : Pos}
end
section
variable {K : PySem.W.Frag} {E : En} {G : Gm} {M : Mp} {N H : Hp} {σ : L2.St}
end
section
variable {X : Cx} {K : PySem.W.Frag}
variable {kx vx tg iter : Expr} {ifs : List Expr} {scope : Scope} {own : List (Str × Nat)} {pos : Pos} {wi : TI} {awi : aA}
end
section
variable {X : Cx} {K : PySem.W.Frag} {a : Expr} {t : TA} {at1 : aA} {pos : Pos}
end
section
variable {G : Gm} {M : Mp} {Q : QD} {d e : D} {ds : List D} {x : aE} {al : aA} {QA : List D → Mp → Prop}
instance i_go_ikeys  : GoR (aiKeys x G M QA) (x G M (kKeys QA)) := ⟨go_ikeys⟩
instance i_go_kkeys {gs : List (Key × D)} : GoR (kKeys QA (.dK gs) M) (QA (gs.map fun kv => keyD kv.1) M) := ⟨go_kkeys⟩
instance i_go_enumT  : GoR (aiEnumT al G M QA) (al G M (kEnumT QA)) := ⟨go_enumT⟩
instance i_go_dnil  : GoR (aDNil G M Q) (Q (.dK []) M) := ⟨go_dnil⟩
end
section
variable {X : Cx}
end
section
variable {K : PySem.W.Frag}
end
section
variable {X : Cx}
end
section
variable {K : PySem.W.Frag}
end
section
variable {K : PySem.W.Frag}
end
section
variable {X : Cx} {K : PySem.W.Frag} {a : Expr} {ta : TE} {aa : aE}
end
section
variable {M : Mp} {Q : QD} {al : aE} {G : Gm}
end
section
variable {X : Cx} {K : PySem.W.Frag} {o e f : Expr} {apos cpos : Pos} {td ty tx : TE} {ad ay ax : aE}
instance i_go_dget2 {G : Gm} {M : Mp} {Q : QD} : GoR (aDGet2 ad ay ax G M Q) (ad G M fun d M1 => isDct M1 d = true ∧ ay G M1 fun y M2 => ax G M2 fun z M3 => ∃ o, getDk M3 d y = some o ∧ Q (o.getD z) M3) := ⟨go_dget2⟩
end
section
variable {X : Cx} {K : PySem.W.Frag} {o i e tg tg2 : Expr} {to ti te : TE} {ao ai ae : aE} {pos : Pos} {g g' : TG} {ag ag' : aG}
end
section
variable {x y : aE} {g g' : aG} {u : aS} {G : Gm} {M m0 : Mp} {d : D} {QG nx : Gm → Mp → Prop} {rt : QD} {bk ct : Gm → Mp → Prop}
instance i_go_subD  : GoR (agSubD x y d G M QG) (x G M fun o M1 => y G M1 (kDPut G QG d o)) := ⟨go_subD⟩
instance i_go_asg2  : GoR (asAsg2 x g g' ⟨m0, nx, rt, bk, ct⟩ G M) (x G M fun d M1 => g d G M1 fun G2 M2 => g' d G2 M2 nx) := ⟨go_asg2⟩
instance i_go_sAsg2  : GoR (asSeq (asAsg2 x g g') u ⟨m0, nx, rt, bk, ct⟩ G M) (asAsg2 x g g' ⟨m0, cvU u ⟨m0, nx, rt, bk, ct⟩, rt, bk, ct⟩ G M) := ⟨go_sAsg2⟩
end
section
variable {M : Mp} {Q : QD}
instance i_go_min2 {i j : Int} : GoR (fMin2 [.int i, .int j] M Q) (Q (.int (if j < i then j else i)) M) := ⟨go_min2⟩
instance i_go_max2 {i j : Int} : GoR (fMax2 [.int i, .int j] M Q) (Q (.int (if j > i then j else i)) M) := ⟨go_max2⟩
end
section
variable {X : Cx} {K : PySem.W.Frag} {a b : Expr} {ta tb : TE} {aa ab : aE} {pos : Pos}
end
section
variable {M : Mp} {Q : QD}
instance i_go_inv {i : Int} : GoR (fInv (.int i) M Q) (Q (.int (Builtin.bitNot i)) M) := ⟨go_inv⟩
instance i_go_bits {i : Int} : GoR (fBits (.int i) M Q) (Q (.int (Builtin.Int.intBits i : Nat)) M) := ⟨go_bits⟩
end
section
variable {X : Cx} {CX : CXT} {k n : Nat} {C g : Addr} {fd : FuncData} {ps ks : List Str} {E : XK} {o e : Expr} {es : List Expr} {kws : List Keyword} {m x : Str} {p pos pos' apos : Pos} {ta : TE} {t tk : TA} {aa : aE} {at1 ak : aA}
  {gV' : List Value → List Value → List Value} {gV : List V → List V → List V} {gD : List D → List D → List D}
end
section
variable {K : PySem.W.Frag} {M0 M M' : Mp} {Q : QD}
end
section
variable {G : Gm} {M : Mp} {Q : QD} {x : aE} {y : aA} {C : Addr} {m : Str} {n nk : Nat} {sp : aSp} {gsp : aGSp} {gD : List D → List D → List D} {d : D} {as : List aE} {acc z a b : Str} {neg : Bool} {L : List Str} {QL : List D → Mp → Prop}
instance i_go_inW {p : Addr} : GoR (fInW p L neg (.str z) (.ref p) M Q) (Q (.bl (if neg then !decide (z ∈ L) else decide (z ∈ L))) M) := ⟨go_inW⟩
instance i_go_jsN  : GoR (aJs [] acc G M Q) (Q (.str acc) M) := ⟨go_jsN⟩
instance i_go_jsC  : GoR (aJs (x :: as) acc G M Q) (x G M (kJs as acc G Q)) := ⟨go_jsC⟩
instance i_go_smeth  : GoR (aSMeth C n sp x y G M Q) (x G M fun d M1 => d = .ref C ∧ y G M1 fun ds M2 => ds.length = n ∧ sp ds M2 Q) := ⟨go_smeth⟩
instance i_go_smethK  : GoR (aSMethK C nk n sp gD x y G M Q) (x G M fun d M1 => d = .ref C ∧ y G M1 fun es M2 => es.length = nk ∧ (gD [] es).length = n ∧ sp (gD [] es) M2 Q) := ⟨go_smethK⟩
instance i_go_methK  : GoR (aMethK C m nk n sp gD x y G M Q) (x G M fun d M1 => kMeth C m d M1 ∧ y G M1 fun es M2 => es.length = nk ∧ (gD [d] es).length = n ∧ sp (gD [d] es) M2 Q) := ⟨go_methK⟩
instance i_go_listG  : GoR (aListG C m n gsp x y G M Q) (x G M fun d M1 => kMeth C m d M1 ∧ y G M1 fun ds M2 => ds.length + 1 = n ∧ gsp (d :: ds) M2 fun outs M3 => Q (.list outs) M3) := ⟨go_listG⟩
instance i_go_listGK  : GoR (aListGK C m nk n gsp gD x y G M Q) (x G M fun d M1 => kMeth C m d M1 ∧ y G M1 fun es M2 => es.length = nk ∧ (gD [d] es).length = n ∧ gsp (gD [d] es) M2 fun outs M3 => Q (.list outs) M3) := ⟨go_listGK⟩
instance i_go_makeK  : GoR (aMakeK C nk n sp gD y G M Q) (y G M fun es M1 => es.length = nk ∧ ∀ x, M1 x = none → (gD [.ref x] es).length = n ∧
  sp (gD [.ref x] es) (mupd M1 x (.ins C [])) fun r M2 => r = .non ∧ ∃ gs, M2 x = some (.ins C gs) ∧ Q (.obj C gs) (mdel M2 x)) := ⟨go_makeK⟩
instance i_go_makeM  : GoR (aMakeM C n sp y G M Q) (y G M fun ds M1 => ds.length + 1 = n ∧ ∀ x, M1 x = none → sp (.ref x :: ds) (mupd M1 x (.ins C [])) fun r M2 => r = .non ∧ Q (.ref x) M2) := ⟨go_makeM⟩
instance i_go_genFor {src : aA} {g : aG} : GoR (aGenFor src g x G M QL) (src G M fun ds M1 => ds.length ≤ 1000000 ∧ genGo g x ds [] G M1 QL) := ⟨go_genFor⟩
end
instance i_go_istr {x : aE} {G : Gm} {M : Mp} {QA : List D → Mp → Prop} : GoR (aiStr x G M QA) (x G M (kStr QA)) := ⟨go_istr⟩
instance i_go_kstr {M : Mp} {QA : List D → Mp → Prop} {z : Str} : GoR (kStr QA (.str z) M) (QA (signsD z) M) := ⟨go_kstr⟩
instance i_go_boolB {M : Mp} {Q : QD} {k : Bool} : GoR (fBool [.bl k] M Q) (Q (.bl k) M) := ⟨go_boolB⟩
end DL

section
open PySem PySem.Spec PyProof.Rows L2 DL
local macro_rules | `(tactic| walk_at "ne") => `(tactic| first
  | assumption
  | exact Ne.symm (by assumption)
  | exact mne (by assumption) (by assumption)
  | exact Ne.symm (mne (by assumption) (by assumption)))
local macro_rules | `(tactic| walk_at "look") => `(tactic| first
  | assumption
  | exact mupd_same
  | (refine (mupd_ne ?k1).trans ?k2; (case k1 => walk_at "ne"); (case k2 => walk_at "look")))
local macro_rules | `(tactic| walk_at "itm") => `(tactic| first
  | exact rfl
  | exact itemsM_ref (by walk_at "look"))
local macro_rules | `(tactic| walk_at "lia") => `(tactic| first
  | omega
  | (simp only [List.length_cons, List.length_nil, List.length_map, List.length_append, List.length_set, length_rng, length_zipD, length_enumD]; omega))
local macro_rules | `(tactic| walk_at "cnd") => `(tactic| first
  | assumption
  | omega
  | (simp only [List.length_cons, List.length_nil, List.length_map, List.length_append, List.length_set, length_rng, length_zipD, length_enumD]; omega)
  | exact cmulR (by omega) (by omega)
  | exact cmulL (by omega) (by omega)
  | exact ⟨by omega, by omega⟩
  | exact ⟨by decide, by decide, by decide⟩)
local macro_rules | `(tactic| walk_at "go1") => `(tactic| first
  | (with_reducible refine' go_s ?_)
  | ((with_reducible refine' go_kpar ?k1 ?k2 ?_); (case k1 => simp only [List.set_cons_zero, List.set_cons_succ]; exact rfl); (case k2 => simp only [List.set_cons_zero, List.set_cons_succ]; exact rfl))
  | ((with_reducible refine' go_kpar3 ?k1 ?k2 ?k3 ?_); (case k1 => simp only [List.set_cons_zero, List.set_cons_succ]; exact rfl); (case k2 => simp only [List.set_cons_zero, List.set_cons_succ]; exact rfl); (case k3 => simp only [List.set_cons_zero, List.set_cons_succ]; exact rfl))
  | ((with_reducible refine' go_aug ?k1 ?_); (case k1 => exact rfl))
  | ((with_reducible refine' go_name ?k1 ?_); (case k1 => simp only [List.set_cons_zero, List.set_cons_succ]; exact rfl))
  | ((with_reducible refine' go_tup ?k1 ?_); (case k1 => exact rfl))
  | ((with_reducible refine' go_unl ?k1 ?_); (case k1 => exact rfl))
  | ((with_reducible refine' go_ksub ?k1 ?k2 ?k3 ?_); (case k1 => walk_at "look"); (first | (case k2 => first | exact rfl | assumption) | (case' k2 => skip)); (first | (case k3 => first | (simp only [Int.reduceToNat, List.set_cons_zero, List.set_cons_succ]; exact rfl) | exact rfl) | (case' k3 => skip)))
  | ((with_reducible refine' go_var ?k1 ?_); (case k1 => exact rfl))
  | (with_reducible refine' go_if' ?_)
  | ((with_reducible refine' go_ktru ?k1 ?_); (case k1 => first | exact rfl | exact truD_ref (by walk_at "look")))
  | ((with_reducible refine' go_addL ?k1 ?_); (first | (case k1 => walk_at "lia") | (case' k1 => skip)))
  | ((with_reducible refine' go_addS ?k1 ?_); (first | (case k1 => walk_at "lia") | (case' k1 => skip)))
  | ((with_reducible refine' go_mulI ?k1 ?_); (first | (case k1 => walk_at "cnd") | (case' k1 => skip)))
  | ((with_reducible refine' go_mulL ?k1 ?k2 ?k3 ?_); (first | (case k1 => walk_at "lia") | (case' k1 => skip)); (first | (case k2 => walk_at "lia") | (case' k2 => skip)); (first | (case k3 => walk_at "lia") | (case' k3 => skip)))
  | ((with_reducible refine' go_mulM ?k1 ?k2 ?k3 ?_); (first | (case k1 => walk_at "lia") | (case' k1 => skip)); (first | (case k2 => walk_at "lia") | (case' k2 => skip)); (first | (case k3 => walk_at "lia") | (case' k3 => skip)))
  | ((with_reducible refine' go_fI ?k1 ?_); (first | (case k1 => walk_at "cnd") | (case' k1 => skip)))
  | ((with_reducible refine' go_isB (b := false) ?k1 ?_); (case k1 => exact rfl))
  | ((with_reducible refine' go_isB (b := true) ?k1 ?_); (case k1 => exact rfl))
  | ((with_reducible refine' go_isnotB (b := false) ?k1 ?_); (case k1 => exact rfl))
  | ((with_reducible refine' go_isnotB (b := true) ?k1 ?_); (case k1 => exact rfl))
  | (with_reducible refine' go_is ?_)
  | (with_reducible refine' go_isnot ?_)
  | ((with_reducible refine' go_ix ?k1 ?k2 ?_); (case k1 => walk_at "itm"); (first | (case k2 => first | exact rfl | assumption) | (case' k2 => skip)))
  | ((with_reducible refine' go_len ?k1 ?_); (case k1 => walk_at "itm"))
  | ((with_reducible refine' go_list ?k1 ?_); (case k1 => walk_at "itm"))
  | ((with_reducible refine' go_listM ?k1 ?_); (case k1 => walk_at "itm"))
  | ((with_reducible refine' go_tuple ?k1 ?_); (case k1 => walk_at "itm"))
  | ((with_reducible refine' go_append ?k1 ?k2 ?_); (case k1 => walk_at "look"); (first | (case k2 => walk_at "lia") | (case' k2 => skip)))
  | ((with_reducible refine' go_pop ?k1 ?k2 ?_); (case k1 => walk_at "look"); (first | (case k2 => first | assumption | exact rfl) | (case' k2 => skip)))
  | ((with_reducible refine' go_isi (b := true) ?k1 ?k2 ?k3 ?_); (case k1 => decide +kernel); (case k2 => first | exact rfl | exact tyD_ref (by walk_at "look")); (case k3 => decide +kernel))
  | ((with_reducible refine' go_isi (b := false) ?k1 ?k2 ?k3 ?_); (case k1 => decide +kernel); (case k2 => first | exact rfl | exact tyD_ref (by walk_at "look")); (case k3 => decide +kernel))
  | ((with_reducible refine' go_isiT (b := true) ?k1 ?k2 ?k3 ?k4 ?_); (case k1 => exact rfl); (case k2 => decide +kernel); (case k3 => first | exact rfl | exact tyD_ref (by walk_at "look")); (case k4 => decide +kernel))
  | ((with_reducible refine' go_isiT (b := false) ?k1 ?k2 ?k3 ?k4 ?_); (case k1 => exact rfl); (case k2 => decide +kernel); (case k3 => first | exact rfl | exact tyD_ref (by walk_at "look")); (case k4 => decide +kernel))
  | (with_reducible refine' go_iteT (k := true) rfl ?_)
  | (with_reducible refine' go_iteF (k := false) rfl ?_)
  | ((with_reducible refine' go_iteT ?k1 ?_); (case k1 => exact rfl))
  | ((with_reducible refine' go_iteF ?k1 ?_); (case k1 => exact rfl))
  | ((with_reducible refine' go_kitems ?k1 ?_); (case k1 => first | exact rfl | assumption))
  | ((with_reducible refine' go_krng1 ?k1 ?k2 ?_); (first | (case k1 => walk_at "lia") | (case' k1 => skip)); (first | (case k2 => walk_at "lia") | (case' k2 => skip)))
  | ((with_reducible refine' go_krng2 ?k1 ?k2 ?k3 ?k4 ?_); (first | (case k1 => walk_at "lia") | (case' k1 => skip)); (first | (case k2 => walk_at "lia") | (case' k2 => skip)); (first | (case k3 => walk_at "lia") | (case' k3 => skip)); (first | (case k4 => walk_at "lia") | (case' k4 => skip)))
  | ((with_reducible refine' go_kzip ?k1 ?k2 ?k3 ?_); (case k1 => exact rfl); (case k2 => exact rfl); (case k3 => exact rfl))
  | ((with_reducible refine' go_lc ?k1 ?_); (case k1 => simp only [wipeG, List.set_cons_zero, List.set_cons_succ]; exact rfl))
  | ((with_reducible refine' go_lcM ?k1 ?_); (case k1 => simp only [wipeG, List.set_cons_zero, List.set_cons_succ]; exact rfl))
  | ((with_reducible refine' go_kfldO ?k1 ?k2 ?k3 ?_); (first | (case k1 => assumption) | (case' k1 => skip)); (first | (case k2 => assumption) | (case' k2 => skip)); (first | (case k3 => exact rfl) | (case' k3 => skip)))
  | ((with_reducible refine' go_kdisK ?k1 ?k2 ?_); (case k1 => exact rfl); (case k2 => exact Nat.le_of_ble_eq_true rfl))
  | ((with_reducible refine' go_kdisT ?k1 ?k2 ?_); (case k1 => exact rfl); (case k2 => exact Nat.le_of_ble_eq_true rfl))
  | ((with_reducible refine' go_slL ?k1 ?k2 ?_); (case k1 => walk_at "itm"); (case k2 => exact rfl))
  | ((with_reducible refine' go_ksl3 ?k1 ?k2 ?k3 ?_); (case k1 => walk_at "itm"); (case k2 => exact rfl); (case k3 => simp))
  | ((with_reducible refine' go_listD ?k1 ?_); (case k1 => walk_at "look"))
  | ((with_reducible refine' go_extend ?k1 ?k2 ?_); (case k1 => walk_at "look"); (first | (case k2 => walk_at "lia") | (case' k2 => skip)))
  | ((with_reducible refine' go_kenumT ?k1 ?k2 ?_); (case k1 => exact rfl); (case k2 => exact rfl))
  | ((with_reducible refine' go_dc ?k1 ?_); (case k1 => simp only [wipeG, List.set_cons_zero, List.set_cons_succ]; exact rfl))
  | ((with_reducible refine' go_insert ?k1 ?k2 ?k3 ?k4 ?_); (case k1 => walk_at "look"); (first | (case k2 => walk_at "lia") | (case' k2 => skip)); (first | (case k3 => walk_at "lia") | (case' k3 => skip)); (first | (case k4 => walk_at "lia") | (case' k4 => skip)))
  | ((with_reducible refine' go_ixGet ?k1 ?_); (case k1 => assumption))
  | ((with_reducible refine' go_listRg ?k1 ?k2 ?_); (first | (case k1 => walk_at "lia") | (case' k1 => skip)); (first | (case k2 => walk_at "lia") | (case' k2 => skip)))
  | ((with_reducible refine' go_kenum ?k1 ?k2 ?_); (case k1 => exact rfl); (case k2 => exact rfl))
  | ((with_reducible refine' (⟨?k1, ?_⟩ : isDct _ _ = true ∧ _)); (case k1 => first | exact rfl | exact isDctK (by walk_at "look") | exact isDctT (by walk_at "look")))
  | ((with_reducible refine' (⟨?k1, ?_⟩ : _ ≤ 1000000 ∧ _)); (case k1 => walk_at "lia"))
  | ((with_reducible refine' (⟨?k1, ?_⟩ : List.length _ = _ ∧ _)); (case k1 => exact rfl))
  | ((with_reducible refine' (⟨?k1, ?_⟩ : List.length _ + 1 = _ ∧ _)); (case k1 => exact rfl))
  | ((with_reducible refine' (⟨?k1, ?_⟩ : kMeth _ _ _ _ ∧ _)); (case k1 => exact go_kmethO rfl))
  | ((with_reducible refine' (⟨?k1, ?_⟩ : tyD _ _ = some _ ∧ _)); (case k1 => first | exact rfl | exact tyD_ref (by walk_at "look")))
  | ((with_reducible refine' go_listRgM ?k1 ?k2 ?_); (first | (case k1 => walk_at "lia") | (case' k1 => skip)); (first | (case k2 => walk_at "lia") | (case' k2 => skip)))
  | ((with_reducible refine' go_lenS ?k1 ?_); (first | (case k1 => first | assumption | omega) | (case' k1 => skip)))
  | ((with_reducible refine' go_split ?k1 ?k2 ?_); (first | (case k1 => walk_at "lia") | (case' k1 => skip)); (case k2 => first | exact rfl | decide))
  | ((with_reducible refine' go_fmtS ?k1 ?_); (first | (case k1 => walk_at "lia") | (case' k1 => skip)))
  | ((with_reducible refine' go_kjs ?k1 ?_); (first | (case k1 => walk_at "lia") | (case' k1 => skip)))
  | ((with_reducible refine' (⟨?k1, ?_⟩ : D.ref _ = D.ref _ ∧ _)); (case k1 => exact rfl)))
local macro_rules | `(tactic| walk_at "go") => `(tactic| repeat walk_at "go1")
local macro_rules | `(tactic| walk_at "goS") => `(tactic| repeat (first | walk_at "go1" | (with_reducible refine' go_seq ?_)))
local macro_rules | `(tactic| walk_at "start") => `(tactic| simp only [startG, List.map_cons, List.map_nil, List.cons_append, List.nil_append, List.length_cons, List.length_nil, List.replicate, Nat.zero_add, Nat.reduceAdd, Nat.reduceSub])


set_option Elab.async false
set_option linter.all false
set_option maxRecDepth 100000
set_option maxHeartbeats 4000000
set_option synthInstance.maxHeartbeats 400000
set_option synthInstance.maxSize 2000
namespace L29
open PySem PySem.Spec PyProof.Rows L2 DL
def topS (i : Nat) : Stmt := PySem.Challenge.pw_sameforever_k00_rows_in_their_least_writ.main.body.getD i (.Pass ⟨0, 0, 0, 0⟩)
abbrev s_right_name : Stmt := topS 17
theorem sc_right_name : FnScope ["value", "sign"] ["value"] (defScope s_right_name) := ⟨rfl, rfl, rfl, by decide +kernel, rfl, by decide +kernel, by decide +kernel⟩

abbrev s_check_length : Stmt := topS 18
theorem sc_check_length : FnScope ["text"] ["text"] (defScope s_check_length) := ⟨rfl, rfl, rfl, by decide +kernel, rfl, by decide +kernel, by decide +kernel⟩

abbrev s_split_words : Stmt := topS 19
theorem sc_split_words : FnScope ["text"] ["text"] (defScope s_split_words) := ⟨rfl, rfl, rfl, by decide +kernel, rfl, by decide +kernel, by decide +kernel⟩

abbrev s__event_sets : Stmt := topS 25
theorem sc__event_sets : FnScope ["events", "written", "event", "names"] ["events"] (defScope s__event_sets) := ⟨rfl, rfl, rfl, by decide +kernel, rfl, by decide +kernel, by decide +kernel⟩

abbrev s__read_ground : Stmt := topS 26
theorem sc__read_ground : FnScope ["line", "parts", "seen", "at"] ["line"] (defScope s__read_ground) := ⟨rfl, rfl, rfl, by decide +kernel, rfl, by decide +kernel, by decide +kernel⟩

abbrev s_Ground___init__ : Stmt := inClass (topS 27) 0
theorem sc_Ground___init__ : FnScope ["self", "line", "kind", "names", "written", "number", "letter"] ["self", "line"] (defScope s_Ground___init__) := ⟨rfl, rfl, rfl, by decide +kernel, rfl, by decide +kernel, by decide +kernel⟩

abbrev s_Ground_number : Stmt := inClass (topS 27) 2
theorem sc_Ground_number : FnScope ["self", "letter"] ["self", "letter"] (defScope s_Ground_number) := ⟨rfl, rfl, rfl, by decide +kernel, rfl, by decide +kernel, by decide +kernel⟩

abbrev s_Ground___eq__ : Stmt := inClass (topS 27) 4
theorem sc_Ground___eq__ : FnScope ["self", "other"] ["self", "other"] (defScope s_Ground___eq__) := ⟨rfl, rfl, rfl, by decide +kernel, rfl, by decide +kernel, by decide +kernel⟩

abbrev s__read_letters : Stmt := topS 28
theorem sc__read_letters : FnScope ["ground", "parts", "start", "numbers", "at", "part"] ["ground", "parts", "start"] (defScope s__read_letters) := ⟨rfl, rfl, rfl, by decide +kernel, rfl, by decide +kernel, by decide +kernel⟩

abbrev s__read_word : Stmt := topS 29
theorem sc__read_word : FnScope ["ground", "text", "parts"] ["ground", "text"] (defScope s__read_word) := ⟨rfl, rfl, rfl, by decide +kernel, rfl, by decide +kernel, by decide +kernel⟩

abbrev s__written : Stmt := topS 30
theorem sc__written : FnScope ["ground", "letters", "letter"] ["ground", "letters"] (defScope s__written) := ⟨rfl, rfl, rfl, by decide +kernel, rfl, by decide +kernel, by decide +kernel⟩

abbrev s__word : Stmt := topS 31
theorem sc__word : FnScope ["ground", "letters", "made"] ["ground", "letters"] (defScope s__word) := ⟨rfl, rfl, rfl, by decide +kernel, rfl, by decide +kernel, by decide +kernel⟩

abbrev s_Word___init__ : Stmt := inClass (topS 32) 0
theorem sc_Word___init__ : FnScope ["self", "ground", "text", "letters"] ["self", "ground", "text"] (defScope s_Word___init__) := ⟨rfl, rfl, rfl, by decide +kernel, rfl, by decide +kernel, by decide +kernel⟩

abbrev s_Word___eq__ : Stmt := inClass (topS 32) 5
theorem sc_Word___eq__ : FnScope ["self", "other"] ["self", "other"] (defScope s_Word___eq__) := ⟨rfl, rfl, rfl, by decide +kernel, rfl, by decide +kernel, by decide +kernel⟩

abbrev s__read_row : Stmt := topS 33
theorem sc__read_row : FnScope ["ground", "text", "parts", "opened", "beginning", "inner", "closed", "period"] ["ground", "text"] (defScope s__read_row) := ⟨rfl, rfl, rfl, by decide +kernel, rfl, by decide +kernel, by decide +kernel⟩

abbrev s__least : Stmt := topS 34
theorem sc__least : FnScope ["beginning", "period", "size", "head", "turn"] ["beginning", "period"] (defScope s__least) := ⟨rfl, rfl, rfl, by decide +kernel, rfl, by decide +kernel, by decide +kernel⟩

abbrev s__row : Stmt := topS 35
theorem sc__row : FnScope ["ground", "beginning", "period", "made", "head", "turn"] ["ground", "beginning", "period"] (defScope s__row) := ⟨rfl, rfl, rfl, by decide +kernel, rfl, by decide +kernel, by decide +kernel⟩

abbrev s__row_text : Stmt := topS 36
theorem sc__row_text : FnScope ["ground", "beginning", "period", "parts", "letter"] ["ground", "beginning", "period"] (defScope s__row_text) := ⟨rfl, rfl, rfl, by decide +kernel, rfl, by decide +kernel, by decide +kernel⟩

abbrev s_Row___init__ : Stmt := inClass (topS 37) 0
theorem sc_Row___init__ : FnScope ["self", "ground", "text", "beginning", "period", "head", "turn"] ["self", "ground", "text"] (defScope s_Row___init__) := ⟨rfl, rfl, rfl, by decide +kernel, rfl, by decide +kernel, by decide +kernel⟩

abbrev s_Row_of : Stmt := inClass (topS 37) 1
theorem sc_Row_of : FnScope ["beginning", "period"] ["beginning", "period"] (defScope s_Row_of) := ⟨rfl, rfl, rfl, by decide +kernel, rfl, by decide +kernel, by decide +kernel⟩

abbrev s_Row_letter : Stmt := inClass (topS 37) 2
theorem sc_Row_letter : FnScope ["self", "place", "ahead"] ["self", "place"] (defScope s_Row_letter) := ⟨rfl, rfl, rfl, by decide +kernel, rfl, by decide +kernel, by decide +kernel⟩

abbrev s_Row_first : Stmt := inClass (topS 37) 5
theorem sc_Row_first : FnScope ["self", "count", "place"] ["self", "count"] (defScope s_Row_first) := ⟨rfl, rfl, rfl, by decide +kernel, rfl, by decide +kernel, by decide +kernel⟩

abbrev s_Row_upto : Stmt := inClass (topS 37) 6
theorem sc_Row_upto : GScope ["self", "count", "place"] ["self", "count"] (defScope s_Row_upto) := ⟨rfl, rfl, rfl, by decide +kernel, rfl, by decide +kernel, by decide +kernel⟩

abbrev s_Row___eq__ : Stmt := inClass (topS 37) 7
theorem sc_Row___eq__ : FnScope ["self", "other"] ["self", "other"] (defScope s_Row___eq__) := ⟨rfl, rfl, rfl, by decide +kernel, rfl, by decide +kernel, by decide +kernel⟩

abbrev s_Row___repr__ : Stmt := inClass (topS 37) 8
theorem sc_Row___repr__ : FnScope ["self"] ["self"] (defScope s_Row___repr__) := ⟨rfl, rfl, rfl, by decide +kernel, rfl, by decide +kernel, by decide +kernel⟩

abbrev s__law_bag : Stmt := topS 39
theorem sc__law_bag : FnScope ["script", "mix", "cell"] ["script"] (defScope s__law_bag) := ⟨rfl, rfl, rfl, by decide +kernel, rfl, by decide +kernel, by decide +kernel⟩

abbrev s__law_draw : Stmt := topS 40
theorem sc__law_draw : FnScope ["bag", "limit", "cell", "digit", "mix"] ["bag", "limit"] (defScope s__law_draw) := ⟨rfl, rfl, rfl, by decide +kernel, rfl, by decide +kernel, by decide +kernel⟩

abbrev s__law_of : Stmt := topS 41
theorem sc__law_of : FnScope ["bag", "things"] ["bag", "things"] (defScope s__law_of) := ⟨rfl, rfl, rfl, by decide +kernel, rfl, by decide +kernel, by decide +kernel⟩

abbrev s__law_kept : Stmt := topS 42
theorem sc__law_kept : FnScope [] [] (defScope s__law_kept) := ⟨rfl, rfl, rfl, by decide +kernel, rfl, by decide +kernel, by decide +kernel⟩

abbrev s__law_name : Stmt := topS 43
theorem sc__law_name : FnScope ["bag", "signs", "pick", "tail", "item", "k"] ["bag"] (defScope s__law_name) := ⟨rfl, rfl, rfl, by decide +kernel, rfl, by decide +kernel, by decide +kernel⟩

abbrev s__law_fresh : Stmt := topS 44
theorem sc__law_fresh : FnScope ["bag", "times", "taken", "told", "k", "item", "n", "c"] ["bag", "times", "taken"] (defScope s__law_fresh) := ⟨rfl, rfl, rfl, by decide +kernel, rfl, by decide +kernel, by decide +kernel⟩

abbrev s__law_written : Stmt := topS 45
theorem sc__law_written : FnScope ["kind", "names", "told", "item", "more", "c"] ["kind", "names"] (defScope s__law_written) := ⟨rfl, rfl, rfl, by decide +kernel, rfl, by decide +kernel, by decide +kernel⟩

abbrev s__law_wide : Stmt := topS 46
theorem sc__law_wide : FnScope ["bag", "kind", "names"] ["bag"] (defScope s__law_wide) := ⟨rfl, rfl, rfl, by decide +kernel, rfl, by decide +kernel, by decide +kernel⟩

abbrev s__law_text : Stmt := topS 47
theorem sc__law_text : FnScope ["signs", "path", "x"] ["signs", "path"] (defScope s__law_text) := ⟨rfl, rfl, rfl, by decide +kernel, rfl, by decide +kernel, by decide +kernel⟩

abbrev s__law_item_text : Stmt := topS 48
theorem sc__law_item_text : FnScope ["signs", "item", "x"] ["signs", "item"] (defScope s__law_item_text) := ⟨rfl, rfl, rfl, by decide +kernel, rfl, by decide +kernel, by decide +kernel⟩

abbrev s__law_least : Stmt := topS 49
theorem sc__law_least : FnScope ["path", "head", "lap", "k", "n"] ["path"] (defScope s__law_least) := ⟨rfl, rfl, rfl, by decide +kernel, rfl, by decide +kernel, by decide +kernel⟩

abbrev s__law_like : Stmt := topS 50
theorem sc__law_like : FnScope ["told", "due", "a", "b"] ["told", "due"] (defScope s__law_like) := ⟨rfl, rfl, rfl, by decide +kernel, rfl, by decide +kernel, by decide +kernel⟩

abbrev s__law_path : Stmt := topS 51
theorem sc__law_path : FnScope ["bag", "size", "pick", "head", "few", "n"] ["bag", "size"] (defScope s__law_path) := ⟨rfl, rfl, rfl, by decide +kernel, rfl, by decide +kernel, by decide +kernel⟩

abbrev s__law_near : Stmt := topS 52
theorem sc__law_near : FnScope ["bag", "path", "size", "pick", "head", "lap"] ["bag", "path", "size"] (defScope s__law_near) := ⟨rfl, rfl, rfl, by decide +kernel, rfl, by decide +kernel, by decide +kernel⟩

abbrev s__law_other : Stmt := topS 53
theorem sc__law_other : FnScope ["bag", "path", "head", "lap", "k"] ["bag", "path"] (defScope s__law_other) := ⟨rfl, rfl, rfl, by decide +kernel, rfl, by decide +kernel, by decide +kernel⟩

abbrev s__law_at : Stmt := topS 54
theorem sc__law_at : FnScope ["path", "spot", "head", "lap"] ["path", "spot"] (defScope s__law_at) := ⟨rfl, rfl, rfl, by decide +kernel, rfl, by decide +kernel, by decide +kernel⟩

abbrev s__law_row_so : Stmt := topS 55
theorem sc__law_row_so : FnScope ["bag", "told", "gr", "signs", "due", "note", "want", "have", "spot", "times", "due_first", "cut"] ["bag", "told", "gr", "signs", "due"] (defScope s__law_row_so) := ⟨rfl, rfl, rfl, by decide +kernel, rfl, by decide +kernel, by decide +kernel⟩

abbrev s__law_alike : Stmt := topS 56
theorem sc__law_alike : FnScope ["one_row", "two_row", "due"] ["one_row", "two_row", "due"] (defScope s__law_alike) := ⟨rfl, rfl, rfl, by decide +kernel, rfl, by decide +kernel, by decide +kernel⟩

abbrev s_law : Stmt := topS 57
theorem sc_law : FnScope ["script", "bag", "kind", "names", "signs", "rule", "size", "gr", "twin", "others", "strange", "path", "due", "rows", "lap", "told", "pieces", "made", "named", "near", "more", "away", "value"] ["script"] (defScope s_law) := ⟨rfl, rfl, rfl, by decide +kernel, rfl, by decide +kernel, by decide +kernel⟩

structure Ad where
  f_right_name : Addr
  fd_right_name : FuncData
  f_check_length : Addr
  fd_check_length : FuncData
  f_split_words : Addr
  fd_split_words : FuncData
  f__event_sets : Addr
  fd__event_sets : FuncData
  f__read_ground : Addr
  fd__read_ground : FuncData
  f_Ground___init__ : Addr
  fd_Ground___init__ : FuncData
  f_Ground_number : Addr
  fd_Ground_number : FuncData
  f_Ground___eq__ : Addr
  fd_Ground___eq__ : FuncData
  f__read_letters : Addr
  fd__read_letters : FuncData
  f__read_word : Addr
  fd__read_word : FuncData
  f__written : Addr
  fd__written : FuncData
  f__word : Addr
  fd__word : FuncData
  f_Word___init__ : Addr
  fd_Word___init__ : FuncData
  f_Word___eq__ : Addr
  fd_Word___eq__ : FuncData
  f__read_row : Addr
  fd__read_row : FuncData
  f__least : Addr
  fd__least : FuncData
  f__row : Addr
  fd__row : FuncData
  f__row_text : Addr
  fd__row_text : FuncData
  f_Row___init__ : Addr
  fd_Row___init__ : FuncData
  f_Row_of : Addr
  fd_Row_of : FuncData
  f_Row_letter : Addr
  fd_Row_letter : FuncData
  f_Row_first : Addr
  fd_Row_first : FuncData
  f_Row_upto : Addr
  fd_Row_upto : FuncData
  f_Row___eq__ : Addr
  fd_Row___eq__ : FuncData
  f_Row___repr__ : Addr
  fd_Row___repr__ : FuncData
  f__law_bag : Addr
  fd__law_bag : FuncData
  f__law_draw : Addr
  fd__law_draw : FuncData
  f__law_of : Addr
  fd__law_of : FuncData
  f__law_kept : Addr
  fd__law_kept : FuncData
  f__law_name : Addr
  fd__law_name : FuncData
  f__law_fresh : Addr
  fd__law_fresh : FuncData
  f__law_written : Addr
  fd__law_written : FuncData
  f__law_wide : Addr
  fd__law_wide : FuncData
  f__law_text : Addr
  fd__law_text : FuncData
  f__law_item_text : Addr
  fd__law_item_text : FuncData
  f__law_least : Addr
  fd__law_least : FuncData
  f__law_like : Addr
  fd__law_like : FuncData
  f__law_path : Addr
  fd__law_path : FuncData
  f__law_near : Addr
  fd__law_near : FuncData
  f__law_other : Addr
  fd__law_other : FuncData
  f__law_at : Addr
  fd__law_at : FuncData
  f__law_row_so : Addr
  fd__law_row_so : FuncData
  f__law_alike : Addr
  fd__law_alike : FuncData
  f_law : Addr
  fd_law : FuncData
  C_Ground : Addr
  C_Word : Addr
  C_Row : Addr
  D_RESERVED : Addr
  p_Row_of : Addr
def kg_Row_of_k_0_period_beginning {t : Type} : List t → List t → List t
  | [], [k0, k1] => [k1, k0]
  | _, _ => []
theorem kr_Row_of_k_0_period_beginning {K : PySem.W.Frag} : ∀ (N : Hp) vs ds ws es, RelL K N vs ds → RelL K N ws es → ds.length = 0 → es.length = ["period", "beginning"].length → RelL K N (kg_Row_of_k_0_period_beginning vs ws) (kg_Row_of_k_0_period_beginning ds es) := by
  intro N vs ds ws es r1 r2 l1 l2
  obtain ⟨rfl, rfl⟩ := r1.split0 l1
  obtain ⟨vk0, ws, dk0, es, rfl, rfl, b0, r2, l2⟩ := r2.split l2
  obtain ⟨vk1, ws, dk1, es, rfl, rfl, b1, r2, l2⟩ := r2.split l2
  obtain ⟨rfl, rfl⟩ := r2.split0 l2
  exact (.cons b1 (.cons b0 .nil))
def kg_Row_first_k_1_count {t : Type} : List t → List t → List t
  | [p0], [k0] => [p0, k0]
  | _, _ => []
theorem kr_Row_first_k_1_count {K : PySem.W.Frag} : ∀ (N : Hp) vs ds ws es, RelL K N vs ds → RelL K N ws es → ds.length = 1 → es.length = ["count"].length → RelL K N (kg_Row_first_k_1_count vs ws) (kg_Row_first_k_1_count ds es) := by
  intro N vs ds ws es r1 r2 l1 l2
  obtain ⟨vp0, vs, dp0, ds, rfl, rfl, a0, r1, l1⟩ := r1.split l1
  obtain ⟨rfl, rfl⟩ := r1.split0 l1
  obtain ⟨vk0, ws, dk0, es, rfl, rfl, b0, r2, l2⟩ := r2.split l2
  obtain ⟨rfl, rfl⟩ := r2.split0 l2
  exact (.cons a0 (.cons b0 .nil))
def kg_Row_upto_k_1_count {t : Type} : List t → List t → List t
  | [p0], [k0] => [p0, k0]
  | _, _ => []
theorem kr_Row_upto_k_1_count {K : PySem.W.Frag} : ∀ (N : Hp) vs ds ws es, RelL K N vs ds → RelL K N ws es → ds.length = 1 → es.length = ["count"].length → RelL K N (kg_Row_upto_k_1_count vs ws) (kg_Row_upto_k_1_count ds es) := by
  intro N vs ds ws es r1 r2 l1 l2
  obtain ⟨vp0, vs, dp0, ds, rfl, rfl, a0, r1, l1⟩ := r1.split l1
  obtain ⟨rfl, rfl⟩ := r1.split0 l1
  obtain ⟨vk0, ws, dk0, es, rfl, rfl, b0, r2, l2⟩ := r2.split l2
  obtain ⟨rfl, rfl⟩ := r2.split0 l2
  exact (.cons a0 (.cons b0 .nil))
def kg_Row_letter_k_1_place {t : Type} : List t → List t → List t
  | [p0], [k0] => [p0, k0]
  | _, _ => []
theorem kr_Row_letter_k_1_place {K : PySem.W.Frag} : ∀ (N : Hp) vs ds ws es, RelL K N vs ds → RelL K N ws es → ds.length = 1 → es.length = ["place"].length → RelL K N (kg_Row_letter_k_1_place vs ws) (kg_Row_letter_k_1_place ds es) := by
  intro N vs ds ws es r1 r2 l1 l2
  obtain ⟨vp0, vs, dp0, ds, rfl, rfl, a0, r1, l1⟩ := r1.split l1
  obtain ⟨rfl, rfl⟩ := r1.split0 l1
  obtain ⟨vk0, ws, dk0, es, rfl, rfl, b0, r2, l2⟩ := r2.split l2
  obtain ⟨rfl, rfl⟩ := r2.split0 l2
  exact (.cons a0 (.cons b0 .nil))
def kg_Row___init___k_1_text_ground {t : Type} : List t → List t → List t
  | [p0], [k0, k1] => [p0, k1, k0]
  | _, _ => []
theorem kr_Row___init___k_1_text_ground {K : PySem.W.Frag} : ∀ (N : Hp) vs ds ws es, RelL K N vs ds → RelL K N ws es → ds.length = 1 → es.length = ["text", "ground"].length → RelL K N (kg_Row___init___k_1_text_ground vs ws) (kg_Row___init___k_1_text_ground ds es) := by
  intro N vs ds ws es r1 r2 l1 l2
  obtain ⟨vp0, vs, dp0, ds, rfl, rfl, a0, r1, l1⟩ := r1.split l1
  obtain ⟨rfl, rfl⟩ := r1.split0 l1
  obtain ⟨vk0, ws, dk0, es, rfl, rfl, b0, r2, l2⟩ := r2.split l2
  obtain ⟨vk1, ws, dk1, es, rfl, rfl, b1, r2, l2⟩ := r2.split l2
  obtain ⟨rfl, rfl⟩ := r2.split0 l2
  exact (.cons a0 (.cons b1 (.cons b0 .nil)))
structure TX (w : World) (K : PySem.W.Frag) (mg : Str → Option Value) (a : Ad) : Prop where
  fn_right_name : Fun K "right_name" "right_name" s_right_name a.f_right_name a.fd_right_name
  bd_right_name : Binds K a.fd_right_name ["value"] []
  mg_right_name : mg "right_name" = some (.ref a.f_right_name)
  kp_right_name : PySem.W.keepIn K (.ref a.f_right_name) = true
  fn_check_length : Fun K "check_length" "check_length" s_check_length a.f_check_length a.fd_check_length
  bd_check_length : Binds K a.fd_check_length ["text"] []
  mg_check_length : mg "check_length" = some (.ref a.f_check_length)
  kp_check_length : PySem.W.keepIn K (.ref a.f_check_length) = true
  fn_split_words : Fun K "split_words" "split_words" s_split_words a.f_split_words a.fd_split_words
  bd_split_words : Binds K a.fd_split_words ["text"] []
  mg_split_words : mg "split_words" = some (.ref a.f_split_words)
  kp_split_words : PySem.W.keepIn K (.ref a.f_split_words) = true
  fn__event_sets : Fun K "_event_sets" "_event_sets" s__event_sets a.f__event_sets a.fd__event_sets
  bd__event_sets : Binds K a.fd__event_sets ["events"] []
  mg__event_sets : mg "_event_sets" = some (.ref a.f__event_sets)
  kp__event_sets : PySem.W.keepIn K (.ref a.f__event_sets) = true
  fn__read_ground : Fun K "_read_ground" "_read_ground" s__read_ground a.f__read_ground a.fd__read_ground
  bd__read_ground : Binds K a.fd__read_ground ["line"] []
  mg__read_ground : mg "_read_ground" = some (.ref a.f__read_ground)
  kp__read_ground : PySem.W.keepIn K (.ref a.f__read_ground) = true
  fn_Ground___init__ : Fun K "__init__" "Ground.__init__" s_Ground___init__ a.f_Ground___init__ a.fd_Ground___init__
  bd_Ground___init__ : Binds K a.fd_Ground___init__ ["self", "line"] []
  fn_Ground_number : Fun K "number" "Ground.number" s_Ground_number a.f_Ground_number a.fd_Ground_number
  bd_Ground_number : Binds K a.fd_Ground_number ["self", "letter"] []
  me_Ground_number : Meth K a.C_Ground "number" a.f_Ground_number
  fn_Ground___eq__ : Fun K "__eq__" "Ground.__eq__" s_Ground___eq__ a.f_Ground___eq__ a.fd_Ground___eq__
  bd_Ground___eq__ : Binds K a.fd_Ground___eq__ ["self", "other"] []
  me_Ground___eq__ : Meth K a.C_Ground "__eq__" a.f_Ground___eq__
  fn__read_letters : Fun K "_read_letters" "_read_letters" s__read_letters a.f__read_letters a.fd__read_letters
  bd__read_letters : Binds K a.fd__read_letters ["ground", "parts", "start"] []
  mg__read_letters : mg "_read_letters" = some (.ref a.f__read_letters)
  kp__read_letters : PySem.W.keepIn K (.ref a.f__read_letters) = true
  fn__read_word : Fun K "_read_word" "_read_word" s__read_word a.f__read_word a.fd__read_word
  bd__read_word : Binds K a.fd__read_word ["ground", "text"] []
  mg__read_word : mg "_read_word" = some (.ref a.f__read_word)
  kp__read_word : PySem.W.keepIn K (.ref a.f__read_word) = true
  fn__written : Fun K "_written" "_written" s__written a.f__written a.fd__written
  bd__written : Binds K a.fd__written ["ground", "letters"] []
  mg__written : mg "_written" = some (.ref a.f__written)
  kp__written : PySem.W.keepIn K (.ref a.f__written) = true
  fn__word : Fun K "_word" "_word" s__word a.f__word a.fd__word
  bd__word : Binds K a.fd__word ["ground", "letters"] []
  mg__word : mg "_word" = some (.ref a.f__word)
  kp__word : PySem.W.keepIn K (.ref a.f__word) = true
  fn_Word___init__ : Fun K "__init__" "Word.__init__" s_Word___init__ a.f_Word___init__ a.fd_Word___init__
  bd_Word___init__ : Binds K a.fd_Word___init__ ["self", "ground", "text"] []
  fn_Word___eq__ : Fun K "__eq__" "Word.__eq__" s_Word___eq__ a.f_Word___eq__ a.fd_Word___eq__
  bd_Word___eq__ : Binds K a.fd_Word___eq__ ["self", "other"] []
  me_Word___eq__ : Meth K a.C_Word "__eq__" a.f_Word___eq__
  fn__read_row : Fun K "_read_row" "_read_row" s__read_row a.f__read_row a.fd__read_row
  bd__read_row : Binds K a.fd__read_row ["ground", "text"] []
  mg__read_row : mg "_read_row" = some (.ref a.f__read_row)
  kp__read_row : PySem.W.keepIn K (.ref a.f__read_row) = true
  fn__least : Fun K "_least" "_least" s__least a.f__least a.fd__least
  bd__least : Binds K a.fd__least ["beginning", "period"] []
  mg__least : mg "_least" = some (.ref a.f__least)
  kp__least : PySem.W.keepIn K (.ref a.f__least) = true
  fn__row : Fun K "_row" "_row" s__row a.f__row a.fd__row
  bd__row : Binds K a.fd__row ["ground", "beginning", "period"] []
  mg__row : mg "_row" = some (.ref a.f__row)
  kp__row : PySem.W.keepIn K (.ref a.f__row) = true
  fn__row_text : Fun K "_row_text" "_row_text" s__row_text a.f__row_text a.fd__row_text
  bd__row_text : Binds K a.fd__row_text ["ground", "beginning", "period"] []
  mg__row_text : mg "_row_text" = some (.ref a.f__row_text)
  kp__row_text : PySem.W.keepIn K (.ref a.f__row_text) = true
  fn_Row___init__ : Fun K "__init__" "Row.__init__" s_Row___init__ a.f_Row___init__ a.fd_Row___init__
  bd_Row___init__ : Binds K a.fd_Row___init__ ["self", "ground", "text"] []
  fn_Row_of : Fun K "of" "Row.of" s_Row_of a.f_Row_of a.fd_Row_of
  bd_Row_of : Binds K a.fd_Row_of ["beginning", "period"] []
  sm_Row_of : SMet K a.C_Row "of" a.p_Row_of a.f_Row_of
  fn_Row_letter : Fun K "letter" "Row.letter" s_Row_letter a.f_Row_letter a.fd_Row_letter
  bd_Row_letter : Binds K a.fd_Row_letter ["self", "place"] []
  me_Row_letter : Meth K a.C_Row "letter" a.f_Row_letter
  fn_Row_first : Fun K "first" "Row.first" s_Row_first a.f_Row_first a.fd_Row_first
  bd_Row_first : Binds K a.fd_Row_first ["self", "count"] []
  me_Row_first : Meth K a.C_Row "first" a.f_Row_first
  fn_Row_upto : Fun K "upto" "Row.upto" s_Row_upto a.f_Row_upto a.fd_Row_upto
  bd_Row_upto : Binds K a.fd_Row_upto ["self", "count"] []
  me_Row_upto : Meth K a.C_Row "upto" a.f_Row_upto
  fn_Row___eq__ : Fun K "__eq__" "Row.__eq__" s_Row___eq__ a.f_Row___eq__ a.fd_Row___eq__
  bd_Row___eq__ : Binds K a.fd_Row___eq__ ["self", "other"] []
  me_Row___eq__ : Meth K a.C_Row "__eq__" a.f_Row___eq__
  fn_Row___repr__ : Fun K "__repr__" "Row.__repr__" s_Row___repr__ a.f_Row___repr__ a.fd_Row___repr__
  bd_Row___repr__ : Binds K a.fd_Row___repr__ ["self"] []
  me_Row___repr__ : Meth K a.C_Row "__repr__" a.f_Row___repr__
  fn__law_bag : Fun K "_law_bag" "_law_bag" s__law_bag a.f__law_bag a.fd__law_bag
  bd__law_bag : Binds K a.fd__law_bag ["script"] []
  mg__law_bag : mg "_law_bag" = some (.ref a.f__law_bag)
  kp__law_bag : PySem.W.keepIn K (.ref a.f__law_bag) = true
  fn__law_draw : Fun K "_law_draw" "_law_draw" s__law_draw a.f__law_draw a.fd__law_draw
  bd__law_draw : Binds K a.fd__law_draw ["bag", "limit"] []
  mg__law_draw : mg "_law_draw" = some (.ref a.f__law_draw)
  kp__law_draw : PySem.W.keepIn K (.ref a.f__law_draw) = true
  fn__law_of : Fun K "_law_of" "_law_of" s__law_of a.f__law_of a.fd__law_of
  bd__law_of : Binds K a.fd__law_of ["bag", "things"] []
  mg__law_of : mg "_law_of" = some (.ref a.f__law_of)
  kp__law_of : PySem.W.keepIn K (.ref a.f__law_of) = true
  fn__law_kept : Fun K "_law_kept" "_law_kept" s__law_kept a.f__law_kept a.fd__law_kept
  bd__law_kept : Binds K a.fd__law_kept [] []
  mg__law_kept : mg "_law_kept" = some (.ref a.f__law_kept)
  kp__law_kept : PySem.W.keepIn K (.ref a.f__law_kept) = true
  fn__law_name : Fun K "_law_name" "_law_name" s__law_name a.f__law_name a.fd__law_name
  bd__law_name : Binds K a.fd__law_name ["bag"] []
  mg__law_name : mg "_law_name" = some (.ref a.f__law_name)
  kp__law_name : PySem.W.keepIn K (.ref a.f__law_name) = true
  fn__law_fresh : Fun K "_law_fresh" "_law_fresh" s__law_fresh a.f__law_fresh a.fd__law_fresh
  bd__law_fresh : Binds K a.fd__law_fresh ["bag", "times", "taken"] []
  mg__law_fresh : mg "_law_fresh" = some (.ref a.f__law_fresh)
  kp__law_fresh : PySem.W.keepIn K (.ref a.f__law_fresh) = true
  fn__law_written : Fun K "_law_written" "_law_written" s__law_written a.f__law_written a.fd__law_written
  bd__law_written : Binds K a.fd__law_written ["kind", "names"] []
  mg__law_written : mg "_law_written" = some (.ref a.f__law_written)
  kp__law_written : PySem.W.keepIn K (.ref a.f__law_written) = true
  fn__law_wide : Fun K "_law_wide" "_law_wide" s__law_wide a.f__law_wide a.fd__law_wide
  bd__law_wide : Binds K a.fd__law_wide ["bag"] []
  mg__law_wide : mg "_law_wide" = some (.ref a.f__law_wide)
  kp__law_wide : PySem.W.keepIn K (.ref a.f__law_wide) = true
  fn__law_text : Fun K "_law_text" "_law_text" s__law_text a.f__law_text a.fd__law_text
  bd__law_text : Binds K a.fd__law_text ["signs", "path"] []
  mg__law_text : mg "_law_text" = some (.ref a.f__law_text)
  kp__law_text : PySem.W.keepIn K (.ref a.f__law_text) = true
  fn__law_item_text : Fun K "_law_item_text" "_law_item_text" s__law_item_text a.f__law_item_text a.fd__law_item_text
  bd__law_item_text : Binds K a.fd__law_item_text ["signs", "item"] []
  mg__law_item_text : mg "_law_item_text" = some (.ref a.f__law_item_text)
  kp__law_item_text : PySem.W.keepIn K (.ref a.f__law_item_text) = true
  fn__law_least : Fun K "_law_least" "_law_least" s__law_least a.f__law_least a.fd__law_least
  bd__law_least : Binds K a.fd__law_least ["path"] []
  mg__law_least : mg "_law_least" = some (.ref a.f__law_least)
  kp__law_least : PySem.W.keepIn K (.ref a.f__law_least) = true
  fn__law_like : Fun K "_law_like" "_law_like" s__law_like a.f__law_like a.fd__law_like
  bd__law_like : Binds K a.fd__law_like ["told", "due"] []
  mg__law_like : mg "_law_like" = some (.ref a.f__law_like)
  kp__law_like : PySem.W.keepIn K (.ref a.f__law_like) = true
  fn__law_path : Fun K "_law_path" "_law_path" s__law_path a.f__law_path a.fd__law_path
  bd__law_path : Binds K a.fd__law_path ["bag", "size"] []
  mg__law_path : mg "_law_path" = some (.ref a.f__law_path)
  kp__law_path : PySem.W.keepIn K (.ref a.f__law_path) = true
  fn__law_near : Fun K "_law_near" "_law_near" s__law_near a.f__law_near a.fd__law_near
  bd__law_near : Binds K a.fd__law_near ["bag", "path", "size"] []
  mg__law_near : mg "_law_near" = some (.ref a.f__law_near)
  kp__law_near : PySem.W.keepIn K (.ref a.f__law_near) = true
  fn__law_other : Fun K "_law_other" "_law_other" s__law_other a.f__law_other a.fd__law_other
  bd__law_other : Binds K a.fd__law_other ["bag", "path"] []
  mg__law_other : mg "_law_other" = some (.ref a.f__law_other)
  kp__law_other : PySem.W.keepIn K (.ref a.f__law_other) = true
  fn__law_at : Fun K "_law_at" "_law_at" s__law_at a.f__law_at a.fd__law_at
  bd__law_at : Binds K a.fd__law_at ["path", "spot"] []
  mg__law_at : mg "_law_at" = some (.ref a.f__law_at)
  kp__law_at : PySem.W.keepIn K (.ref a.f__law_at) = true
  fn__law_row_so : Fun K "_law_row_so" "_law_row_so" s__law_row_so a.f__law_row_so a.fd__law_row_so
  bd__law_row_so : Binds K a.fd__law_row_so ["bag", "told", "gr", "signs", "due"] []
  mg__law_row_so : mg "_law_row_so" = some (.ref a.f__law_row_so)
  kp__law_row_so : PySem.W.keepIn K (.ref a.f__law_row_so) = true
  fn__law_alike : Fun K "_law_alike" "_law_alike" s__law_alike a.f__law_alike a.fd__law_alike
  bd__law_alike : Binds K a.fd__law_alike ["one_row", "two_row", "due"] []
  mg__law_alike : mg "_law_alike" = some (.ref a.f__law_alike)
  kp__law_alike : PySem.W.keepIn K (.ref a.f__law_alike) = true
  fn_law : Fun K "law" "law" s_law a.f_law a.fd_law
  bd_law : Binds K a.fd_law ["script"] []
  mg_law : mg "law" = some (.ref a.f_law)
  kp_law : PySem.W.keepIn K (.ref a.f_law) = true
  mg_RESERVED : mg "RESERVED" = some (.ref a.D_RESERVED)
  kd_RESERVED : KdT K w a.D_RESERVED ["yes", "no", "not", "next", "soon", "always", "again", "atlast", "and", "or", "then", "same", "until", "unless"]
  oc_Ground : ObC K a.C_Ground
  ci_Ground : ClsI K a.C_Ground
  ne_Ground : PySem.W.findIn K (.ref a.C_Ground) "__ne__" = some (some (.builtin "object.__ne__"))
  st_Ground : ∀ T ∈ ["NoneType", "str", "int", "tuple"], PySem.W.subIn K (.ref a.C_Ground) (.type T) = some false
  sx_Ground_Word : PySem.W.subIn K (.ref a.C_Ground) (.ref a.C_Word) = some false
  kx_Ground_Word : PySem.W.kitOne K (.ref a.C_Ground) (.ref a.C_Word) = some false
  sx_Ground_Row : PySem.W.subIn K (.ref a.C_Ground) (.ref a.C_Row) = some false
  kx_Ground_Row : PySem.W.kitOne K (.ref a.C_Ground) (.ref a.C_Row) = some false
  oc_Word : ObC K a.C_Word
  ci_Word : ClsI K a.C_Word
  ne_Word : PySem.W.findIn K (.ref a.C_Word) "__ne__" = some (some (.builtin "object.__ne__"))
  st_Word : ∀ T ∈ ["NoneType", "str", "int", "tuple"], PySem.W.subIn K (.ref a.C_Word) (.type T) = some false
  sx_Word_Ground : PySem.W.subIn K (.ref a.C_Word) (.ref a.C_Ground) = some false
  kx_Word_Ground : PySem.W.kitOne K (.ref a.C_Word) (.ref a.C_Ground) = some false
  sx_Word_Row : PySem.W.subIn K (.ref a.C_Word) (.ref a.C_Row) = some false
  kx_Word_Row : PySem.W.kitOne K (.ref a.C_Word) (.ref a.C_Row) = some false
  oc_Row : ObC K a.C_Row
  ci_Row : ClsI K a.C_Row
  ne_Row : PySem.W.findIn K (.ref a.C_Row) "__ne__" = some (some (.builtin "object.__ne__"))
  st_Row : ∀ T ∈ ["NoneType", "str", "int", "tuple"], PySem.W.subIn K (.ref a.C_Row) (.type T) = some false
  sx_Row_Ground : PySem.W.subIn K (.ref a.C_Row) (.ref a.C_Ground) = some false
  kx_Row_Ground : PySem.W.kitOne K (.ref a.C_Row) (.ref a.C_Ground) = some false
  sx_Row_Word : PySem.W.subIn K (.ref a.C_Row) (.ref a.C_Word) = some false
  kx_Row_Word : PySem.W.kitOne K (.ref a.C_Row) (.ref a.C_Word) = some false
  mg_Ground : mg "Ground" = some (.ref a.C_Ground)
  cl_Ground : Cls K a.C_Ground
  mk_Ground : Mk K a.C_Ground a.f_Ground___init__
  na_Ground_kind : NoAttr K a.C_Ground "kind"
  na_Ground_text : NoAttr K a.C_Ground "text"
  na_Ground_letters : NoAttr K a.C_Ground "letters"
  na_Ground__names : NoAttr K a.C_Ground "_names"
  na_Ground__numbers : NoAttr K a.C_Ground "_numbers"
  mg_Word : mg "Word" = some (.ref a.C_Word)
  cl_Word : Cls K a.C_Word
  mk_Word : Mk K a.C_Word a.f_Word___init__
  na_Word_ground : NoAttr K a.C_Word "ground"
  na_Word_letters : NoAttr K a.C_Word "letters"
  na_Word_text : NoAttr K a.C_Word "text"
  mg_Row : mg "Row" = some (.ref a.C_Row)
  cl_Row : Cls K a.C_Row
  mk_Row : Mk K a.C_Row a.f_Row___init__
  na_Row_ground : NoAttr K a.C_Row "ground"
  na_Row_beginning : NoAttr K a.C_Row "beginning"
  na_Row_period : NoAttr K a.C_Row "period"
  na_Row_text : NoAttr K a.C_Row "text"
  b_all : mg "all" = none
  b_bool : mg "bool" = none
  b_dict : mg "dict" = none
  b_enumerate : mg "enumerate" = none
  b_int : mg "int" = none
  b_isinstance : mg "isinstance" = none
  b_len : mg "len" = none
  b_list : mg "list" = none
  b_range : mg "range" = none
  b_repr : mg "repr" = none
  b_str : mg "str" = none
  b_tuple : mg "tuple" = none
  b_zip : mg "zip" = none
  c_MOST_CHARACTERS : ∃ t, mg "MOST_CHARACTERS" = some (.int 40000 t)
  c_FIRST_SIGNS : ∃ t, mg "FIRST_SIGNS" = some (.str "abcdefghijklmnopqrstuvwxyz" t)
  c_SIGNS : ∃ t, mg "SIGNS" = some (.str "abcdefghijklmnopqrstuvwxyz0123456789" t)
  c_MOST_LETTERS : ∃ t, mg "MOST_LETTERS" = some (.int 6 t)
  c_MOST_EVENTS : ∃ t, mg "MOST_EVENTS" = some (.int 3 t)
  c_MOST_IN_WORD : ∃ t, mg "MOST_IN_WORD" = some (.int 40 t)
  c_MOST_IN_ROUND : ∃ t, mg "MOST_IN_ROUND" = some (.int 20 t)
  kb_Row_of_k_0_period_beginning : KBn K a.fd_Row_of ["beginning", "period"] 0 ["period", "beginning"] kg_Row_of_k_0_period_beginning kg_Row_of_k_0_period_beginning
  kb_Row_first_k_1_count : KBn K a.fd_Row_first ["self", "count"] 1 ["count"] kg_Row_first_k_1_count kg_Row_first_k_1_count
  kb_Row_upto_k_1_count : KBn K a.fd_Row_upto ["self", "count"] 1 ["count"] kg_Row_upto_k_1_count kg_Row_upto_k_1_count
  kb_Row_letter_k_1_place : KBn K a.fd_Row_letter ["self", "place"] 1 ["place"] kg_Row_letter_k_1_place kg_Row_letter_k_1_place
  kb_Row___init___k_1_text_ground : KBn K a.fd_Row___init__ ["self", "ground", "text"] 1 ["text", "ground"] kg_Row___init___k_1_text_ground kg_Row___init___k_1_text_ground
end L29

set_option Elab.async false
set_option linter.all false
set_option maxRecDepth 100000
set_option maxHeartbeats 4000000
set_option synthInstance.maxHeartbeats 400000
set_option synthInstance.maxSize 2000
namespace L29
open PySem PySem.Spec PyProof.Rows L2 DL
def GoodBag (c : MC) : Prop := ∃ (cs : List Int) (i r m c' : Int), c = .lst [.list (cs.map D.int), .int i, .int r, .int m, .int c'] ∧ 0 ≤ i ∧ 0 ≤ r ∧ 0 ≤ m ∧ m < 2147483648
def Bag (M : Mp) (b : Addr) : Prop := ∃ c, M b = some c ∧ GoodBag c
def sp__law_draw : aSp := fun ds M Q => ∃ b n, ds = [.ref b, .int n] ∧ 0 < n ∧ n < 1073741824 ∧ Bag M b ∧ ∀ (i : Int) c, 0 ≤ i → i < n → GoodBag c → Q (.int i) (mupd M b c)
def sp__law_bag : aSp := fun ds M Q => ∃ ns : List Int, ds = [.rol (ns.map .int)] ∧ ns.length ≤ 63 ∧ ∀ b c, M b = none → GoodBag c → Q (.ref b) (mupd M b c)
def sp__law_of : aSp := fun ds M Q => ∃ b things, ds = [.ref b, .list things] ∧ things ≠ [] ∧ things.length < 1073741824 ∧ Bag M b ∧ ∀ d c, d ∈ things → GoodBag c → Q d (mupd M b c)
/-- .. of a text's signs -/
def sp__law_ofS : aSp := fun ds M Q => ∃ b z, ds = [.ref b, .str z] ∧ 0 < z.length ∧ z.length < 1000 ∧ Bag M b ∧ ∀ (x : Nat) c, x ∈ z.cps.toList → GoodBag c → Q (.str ⟨#[x]⟩) (mupd M b c)
theorem cut63 (ns : List Int) : DL.cutD (ns.map D.int) none (some 63) = (ns.take 63).map D.int := by
  unfold DL.cutD
  rw [HT.sIx_none, List.drop_zero, show (some (63 : Int)) = some ((63 : Nat) : Int) from rfl, HT.sIx_nat, List.length_map, Nat.sub_zero, List.map_take]
  by_cases h : 63 ≤ ns.length
  · rw [Nat.min_eq_left h]
  · rw [Nat.min_eq_right (by omega), List.take_of_length_le (by simp), List.take_of_length_le (by simp; omega)]
theorem ints_at (cs : List Int) {i : Int} (h : 0 ≤ i) (h2 : i < (cs.map D.int).length) : ∃ x, atI (cs.map D.int) i = some (.int x) := by
  rw [List.length_map] at h2
  refine ⟨cs[i.toNat]'(by omega), ?_⟩
  rw [atI_nn _ h, List.getElem?_map, List.getElem?_eq_getElem (by omega)]
  rfl
section
variable {P : Program} {w : World} {K : PySem.W.Frag} {mg : Str → Option Value} {base : Heap} {a : Ad}
theorem ok__law_draw (T : TX w K mg a) : FnOk P w K mg base CX0 1 a.f__law_draw a.fd__law_draw ["bag", "limit"] (lift K 2 sp__law_draw) := by
  refine hid_of ?_; simp (discharger := (with_unfolding_all
    refine okD (k := 0) T.fn__law_draw sc__law_draw rfl fun cdv A outer s H E hr => ⟨_, _, (dss_cons (ds_asg (de_add (de_ix (hu_of hr) (dv 0) de_int (fun _ _ => rfl)) de_int) (dg_subL (dv 0) de_int))
        (dss_cons (ds_if (DW.dt (dw_and (dt_cmp (op_eqD hr.units) s2_eq (de_ix (hu_of hr) (dv 0) de_int (fun _ _ => rfl)) de_int (nomark _)) (dw_and1 (dt_cmp op_lt s2_lt (de_ix (hu_of hr) (dv 0) de_int (fun _ _ => rfl)) (de_callB call_lenA sl_len (by rfl) T.b_len (by decide +kernel) (da_cons (de_ix (hu_of hr) (dv 0) de_int (fun _ _ => rfl)) da_nil)) (nomark _))))) (dss_cons (ds_set (j := 2) sc__law_draw.nd rfl (by first | exact .inl rfl | exact .inr rfl) (de_callTy call_int1 sl_int (by rfl) T.b_int (by decide +kernel) (da_cons (de_ix (hu_of hr) (de_ix (hu_of hr) (dv 0) de_int (fun _ _ => rfl)) (de_ix (hu_of hr) (dv 0) de_int (fun _ _ => rfl)) (fun _ _ => rfl)) da_nil)))
        (dss_cons (ds_asg (de_add (de_ix (hu_of hr) (dv 0) de_int (fun _ _ => rfl)) de_int) (dg_subL (dv 0) de_int))
        (dss_one (ds_if (dt_cmp op_ge s2_ge (dv 2) (de_pow de_int de_int) (nomark _)) (dss_one (ds_asg (dv 2) (dg_subL (dv 0) de_int))) (dss_one (ds_asg (de_mod (de_callTy call_int1 sl_int (by rfl) T.b_int (by decide +kernel) (da_cons (de_add (de_add (de_mul (de_ix (hu_of hr) (dv 0) de_int (fun _ _ => rfl)) de_int) (de_mul (de_mod (de_callTy call_int1 sl_int (by rfl) T.b_int (by decide +kernel) (da_cons (dv 2) da_nil)) de_int) de_int)) de_int) da_nil)) de_int) (dg_subL (dv 0) de_int))))))) dss_nil)
        (dss_cons (ds_if (dt_cmp op_gt s2_gt (de_ix (hu_of hr) (dv 0) de_int (fun _ _ => rfl)) de_int (nomark _)) (dss_cons (ds_set (j := 3) sc__law_draw.nd rfl (by first | exact .inl rfl | exact .inr rfl) (de_mod (de_callTy call_int1 sl_int (by rfl) T.b_int (by decide +kernel) (da_cons (de_ix (hu_of hr) (dv 0) de_int (fun _ _ => rfl)) da_nil)) (dv 1)))
        (dss_cons (ds_asg (de_div (de_ix (hu_of hr) (dv 0) de_int (fun _ _ => rfl)) (dv 1)) (dg_subL (dv 0) de_int))
        (dss_one (ds_ret (dv 3))))) dss_nil)
        (dss_cons (ds_set (j := 4) sc__law_draw.nd rfl (by first | exact .inl rfl | exact .inr rfl) (de_callTy call_int1 sl_int (by rfl) T.b_int (by decide +kernel) (da_cons (de_ix (hu_of hr) (dv 0) de_int (fun _ _ => rfl)) da_nil)))
        (dss_cons (ds_asg (de_mod (de_callTy call_int1 sl_int (by rfl) T.b_int (by decide +kernel) (da_cons (de_add (de_add (de_add (de_pow (dv 4) de_int) (de_mul (dv 4) de_int)) (de_mul (de_ix (hu_of hr) (dv 0) de_int (fun _ _ => rfl)) de_int)) de_int) da_nil)) de_int) (dg_subL (dv 0) de_int))
        (dss_one (ds_ret (de_mod (de_callTy call_int1 sl_int (by rfl) T.b_int (by decide +kernel) (da_cons (de_add (de_div (de_ix (hu_of hr) (dv 0) de_int (fun _ _ => rfl)) de_int) (de_mul (de_mod (de_callTy call_int1 sl_int (by rfl) T.b_int (by decide +kernel) (da_cons (de_ix (hu_of hr) (dv 0) de_int (fun _ _ => rfl)) da_nil)) de_int) de_int)) da_nil)) (dv 1))))))))), fun ds M Q hl h => ?_⟩
    obtain ⟨b, n, rfl, h0, h1, ⟨c, hb, cs, i, r, m, c', rfl, hi, hr0, hm0, hm1⟩, q⟩ := h
    simp only [startG, List.map_cons, List.map_nil, List.cons_append, List.nil_append, List.length_cons, List.length_nil, List.replicate, Nat.zero_add, Nat.reduceAdd, Nat.reduceSub]
    walk_at "go"
    refine go_seqK (J := fun G' M' => ∃ (x : Option D) (cs : List Int) (i r m c' : Int), G' = [some (.ref b), some (.int n), x, none, none] ∧ M' = mupd M b (.lst [.list (cs.map D.int), .int i, .int r, .int m, .int c']) ∧ 0 ≤ i ∧ 0 ≤ r ∧ 0 ≤ m ∧ m < 2147483648) (fun nx hk => ?_) (fun G' M' hJ => ?_)
    · walk_at "go"
      refine go_ite (fun e1 => ?_) (fun e1 => ?_)
      · walk_at "go"
        refine go_ite (fun e2 => ?_) (fun e2 => ?_)
        · have e2 := of_decide_eq_true e2
          obtain ⟨x, hx⟩ := ints_at cs hi e2
          walk_at "go"
          refine go_ite (fun e3 => ?_) (fun e3 => ?_)
          · walk_at "go"
            rw [mupd_mupd, mupd_mupd]
            have e3 := of_decide_eq_true e3
            exact hk _ _ ⟨_, cs, i + 1, _, m, c' + 1, rfl, rfl, by omega, Int.le_trans (by decide) e3, hm0, hm1⟩
          · walk_at "go"
            rw [mupd_mupd, mupd_mupd]
            exact hk _ _ ⟨_, cs, i + 1, r, _, c' + 1, rfl, rfl, by omega, by omega, Int.emod_nonneg _ (by decide), by have := Int.emod_lt_of_pos (m * 60917 + x % 2147483489 * 20021 + 103) (show (0:Int) < 2147483647 by decide); omega⟩
        · walk_at "go"
          exact hk _ _ ⟨_, cs, i, r, m, c' + 1, rfl, rfl, hi, hr0, hm0, hm1⟩
      · walk_at "go"
        exact hk _ _ ⟨_, cs, i, r, m, c' + 1, rfl, rfl, hi, hr0, hm0, hm1⟩
    · obtain ⟨x, cs, i, r, m, c', rfl, rfl, hi, hr0, hm0, hm1⟩ := hJ
      refine go_seq ?_
      walk_at "go"
      refine go_ite (fun e1 => ?_) (fun e1 => ?_)
      · have e1 := of_decide_eq_true e1
        walk_at "go"
        rw [mupd_mupd]
        exact Fin.of (q _ _ (Int.emod_nonneg _ (by omega)) (Int.emod_lt_of_pos _ h0) ⟨cs, i, _, m, c', rfl, hi, Int.ediv_nonneg hr0 (by omega), hm0, hm1⟩)
      · walk_at "go"
        rw [mupd_mupd]
        have z := Int.emod_nonneg (m ^ (3 : Int).toNat + m * 40087 + c' * 1500473 + 70019) (show (2147483647 : Int) ≠ 0 by decide)
        have z2 := Int.emod_lt_of_pos (m ^ (3 : Int).toNat + m * 40087 + c' * 1500473 + 70019) (show (0 : Int) < 2147483647 by decide)
        exact Fin.of (q _ _ (Int.emod_nonneg _ (by omega)) (Int.emod_lt_of_pos _ h0) ⟨cs, i, r, _, c', rfl, hi, hr0, z, by omega⟩))) only [↓hid_eq]
theorem ok__law_bag (T : TX w K mg a) : FnOk P w K mg base CX0 1 a.f__law_bag a.fd__law_bag ["script"] (lift K 1 sp__law_bag) := by
  refine hid_of ?_; simp (discharger := (with_unfolding_all
    refine okD (k := 0) T.fn__law_bag sc__law_bag rfl fun cdv A outer s H E hr => ⟨_, _, (dss_cons (ds_set (j := 1) sc__law_bag.nd rfl (by first | exact .inl rfl | exact .inr rfl) de_int)
        (dss_cons (ds_for (di_seq (de_slice (dv 0) do_none (do_some de_int))) (dg_name (j := 2) sc__law_bag.nd rfl (by first | exact .inl rfl | exact .inr rfl)) (dss_one (ds_set (j := 1) sc__law_bag.nd rfl (by first | exact .inl rfl | exact .inr rfl) (de_mod (de_callTy call_int1 sl_int (by rfl) T.b_int (by decide +kernel) (da_cons (de_add (de_add (de_mul (dv 1) de_int) (de_mod (de_callTy call_int1 sl_int (by rfl) T.b_int (by decide +kernel) (da_cons (dv 2) da_nil)) de_int)) de_int) da_nil)) de_int))) PassesOwn.never)
        (dss_one (ds_ret (de_lstM (da_cons (de_callTy call_list_of sl_list (by rfl) T.b_list (by decide +kernel) (da_cons (de_slice (dv 0) do_none (do_some de_int)) da_nil)) (da_cons de_int (da_cons de_int (da_cons (dv 1) (da_cons de_int da_nil)))))))))), fun ds M Q hl h => ?_⟩
    obtain ⟨ns, rfl, hns, q⟩ := h
    walk_at "start"
    walk_at "go"
    refine go_seqK (J := fun G' M' => ∃ (m : Int) (x : Option D), G' = [some (.rol (ns.map .int)), some (.int m), x] ∧ M' = M ∧ 0 ≤ m ∧ m < 2147483648) (fun nx hk => ?_) (fun G' M' hJ => ?_)
    · walk_at "go"
      rw [cut63]
      refine go_forI (fun i G' M' => ∃ (m : Int) (x : Option D), G' = [some (.rol (ns.map .int)), some (.int m), x] ∧ M' = M ∧ 0 ≤ m ∧ m < 2147483648) ⟨1290713, none, rfl, rfl, by decide, by decide⟩ (fun i d G' M' nx' hd hI hn => ?_) (fun G' M' hI => hk G' M' hI)
      obtain ⟨m, x, rfl, rfl, hm0, hm1⟩ := hI
      rw [List.getElem?_map] at hd
      obtain ⟨z, _, rfl⟩ := Option.map_eq_some_iff.mp hd
      walk_at "go"
      exact hn _ _ ⟨_, _, rfl, rfl, Int.emod_nonneg _ (by decide), by have := Int.emod_lt_of_pos (m * 50993 + z % 2147483543 + 419) (show (0:Int) < 2147483647 by decide); omega⟩
    · obtain ⟨m, x, rfl, rfl, hm0, hm1⟩ := hJ
      walk_at "go"
      intro p hp
      rw [cut63]
      exact Fin.of (q p _ hp ⟨ns.take 63, 0, 0, m, 0, rfl, by decide, by decide, hm0, hm1⟩))) only [↓hid_eq]
theorem ok__law_of (T : TX w K mg a) : FnOk P w K mg base CX0 2 a.f__law_of a.fd__law_of ["bag", "things"] (lift K 2 sp__law_of) := by
  refine hid_of ?_; simp (discharger := (with_unfolding_all
    refine okD (k := 1) T.fn__law_of sc__law_of rfl fun cdv A outer s H E hr => ⟨_, _, (dss_one (ds_ret (de_ix (hu_of hr) (dv 1) (de_call (ok__law_draw T) (hr.mono (by decide)) (by rfl) T.mg__law_draw T.kp__law_draw T.bd__law_draw pass0 (da_cons (dv 0) (da_cons (de_callB call_lenA sl_len (by rfl) T.b_len (by decide +kernel) (da_cons (dv 1) da_nil)) da_nil))) (fun _ _ => rfl)))), fun ds M Q hl h => ?_⟩
    obtain ⟨b, things, rfl, h0, h1, hb, q⟩ := h
    walk_at "start"
    walk_at "go"
    have hl : 0 < things.length := List.length_pos_iff.mpr h0
    refine ⟨b, (things.length : Int), rfl, by omega, by omega, hb, fun i c hi0 hi1 hc => ?_⟩
    walk_at "go"
    · rw [atI_nn _ hi0]
      exact List.getElem?_eq_getElem (by omega)
    exact Fin.of (q _ c (List.getElem_mem _) hc))) only [↓hid_eq]
theorem ok__law_ofS (T : TX w K mg a) : FnOk P w K mg base CX0 2 a.f__law_of a.fd__law_of ["bag", "things"] (lift K 2 sp__law_ofS) := by
  refine hid_of ?_; simp (discharger := (with_unfolding_all
    refine okD (k := 1) T.fn__law_of sc__law_of rfl fun cdv A outer s H E hr => ⟨_, _, (dss_one (ds_ret (de_ix (hu_of hr) (dv 1) (de_call (ok__law_draw T) (hr.mono (by decide)) (by rfl) T.mg__law_draw T.kp__law_draw T.bd__law_draw pass0 (da_cons (dv 0) (da_cons (de_callB call_lenA sl_len (by rfl) T.b_len (by decide +kernel) (da_cons (dv 1) da_nil)) da_nil))) (fun _ _ => rfl)))), fun ds M Q hl h => ?_⟩
    obtain ⟨b, z, rfl, h0, h1, hb, q⟩ := h
    walk_at "start"
    walk_at "go"
    refine ⟨b, (z.length : Int), rfl, by omega, by omega, hb, fun i c hi0 hi1 hc => ?_⟩
    walk_at "go"
    have hz : z.length = z.cps.toList.length := by show z.cps.size = _; simp
    have e : atI z.cps.toList i = some (z.cps.toList[i.toNat]'(by omega)) := by
      rw [atI_nn _ hi0]
      exact List.getElem?_eq_getElem (by omega)
    refine go_ixC (by omega) e ?_
    exact Fin.of (q _ c (List.getElem_mem _) hc))) only [↓hid_eq]
end
end L29

set_option Elab.async false
set_option linter.all false
set_option maxRecDepth 100000
set_option maxHeartbeats 4000000
set_option synthInstance.maxHeartbeats 400000
set_option synthInstance.maxSize 2000
namespace L29
open PySem PySem.Spec PyProof.Rows L2 DL
/-! names, letters, texts: plain theory -/
def barred : List Str := ["yes", "no", "not", "next", "soon", "always", "again", "atlast", "and", "or", "then", "same", "until", "unless"]
abbrev tl (x : Str) : List Nat := TL.tl x
theorem tl_inj {x y : Str} (h : tl x = tl y) : x = y := TL.ext_tl h
theorem tl_len (x : Str) : x.length = (tl x).length := TL.len_tl x
theorem tl_app (x y : Str) : tl (x ++ y) = tl x ++ tl y := TL.tl_append x y
def NameSign (x : Nat) : Prop := (97 ≤ x ∧ x ≤ 122) ∨ (48 ≤ x ∧ x ≤ 57)
structure NameOk (s : Str) : Prop where
  l8 : s.length ≤ 8
  nb : s ∉ barred
  hd : ∃ c r, tl s = c :: r ∧ 97 ≤ c ∧ c ≤ 122
  sg : ∀ x ∈ tl s, NameSign x
theorem NameOk.ne {s : Str} (h : NameOk s) : tl s ≠ [] := by
  obtain ⟨c, r, e, _⟩ := h.hd
  rw [e]; simp
theorem NameOk.l1 {s : Str} (h : NameOk s) : 1 ≤ s.length := by
  obtain ⟨c, r, e, _⟩ := h.hd
  rw [tl_len, e]; simp
/-- a letter's text -/
structure LetOk (s : Str) : Prop where
  l1 : 1 ≤ s.length
  l26 : s.length ≤ 26
  sg : ∀ x ∈ tl s, 43 ≤ x ∧ x ≠ 46
theorem NameOk.let {s : Str} (h : NameOk s) : LetOk s := ⟨h.l1, Nat.le_trans h.l8 (by decide), fun x hx => by
  rcases h.sg x hx with z | z <;> omega⟩
theorem LetOk.no {s : Str} (h : LetOk s) {c : Nat} (hc : c < 43 ∨ c = 46) {z : Str} (hz : tl z = [c]) : s ≠ z := by
  intro e
  subst e
  have := h.sg c (by rw [hz]; simp)
  omega
theorem LetOk.sp {s : Str} (h : LetOk s) : 32 ∉ tl s := fun hx => by have := h.sg _ hx; omega
def evSets (ns : List Str) : List (List Str) := ns.foldl (fun w e => w ++ w.map (· ++ [e])) [[]]
def evName (ns : List Str) : Str := if ns = [] then "-" else Txt.join "+" ns
def lettersOf (k : Str) (ns : List Str) : List Str := if k = "letters" then ns else (evSets ns).map evName
def lawEv (ns : List Str) : List Str := ns.foldl (fun told item => told ++ told.map (fun c : Str => if c = ("-" : Str) then item else c ++ "+" ++ item)) [("-" : Str)]
theorem tl_minus : tl ("-" : Str) = [45] := by decide +kernel
theorem tl_plus : tl ("+" : Str) = [43] := by decide +kernel
theorem tl_space : tl (" " : Str) = [32] := by decide +kernel
theorem tl_dot : tl ("." : Str) = [46] := by decide +kernel
theorem tl_open : tl ("(" : Str) = [40] := by decide +kernel
theorem tl_close : tl (")" : Str) = [41] := by decide +kernel
theorem tl_joinX (y : Str) (ps : List Str) : tl (Txt.join y ps) = TL.joinL (tl y) (ps.map tl) := by
  rw [TL.join_eq]; exact TL.tl_join y ps
theorem joinL_snoc (S q : List Nat) : ∀ ps : List (List Nat), ps ≠ [] → TL.joinL S (ps ++ [q]) = TL.joinL S ps ++ (S ++ q)
  | [], h => absurd rfl h
  | [p], _ => by simp [TL.joinL]
  | p :: p2 :: r, _ => by
    have ih := joinL_snoc S q (p2 :: r) (by simp)
    show p ++ (S ++ TL.joinL S (p2 :: r ++ [q])) = (p ++ (S ++ TL.joinL S (p2 :: r))) ++ (S ++ q)
    rw [ih]
    simp
theorem joinL_mem {S : List Nat} {x : Nat} : ∀ {ps : List (List Nat)}, x ∈ TL.joinL S ps → x ∈ S ∨ ∃ p ∈ ps, x ∈ p
  | [], h => by simp [TL.joinL] at h
  | [p], h => .inr ⟨p, by simp, h⟩
  | p :: p2 :: r, h => by
    have h : x ∈ p ++ (S ++ TL.joinL S (p2 :: r)) := h
    rw [List.mem_append, List.mem_append] at h
    rcases h with h | h | h
    · exact .inr ⟨p, by simp, h⟩
    · exact .inl h
    · rcases joinL_mem h with h | ⟨q, hq, h⟩
      · exact .inl h
      · exact .inr ⟨q, List.mem_cons_of_mem _ hq, h⟩
theorem joinL_len {S : List Nat} {m : Nat} : ∀ {ps : List (List Nat)}, (∀ p ∈ ps, p.length ≤ m) → (TL.joinL S ps).length ≤ ps.length * (m + S.length)
  | [], _ => by simp [TL.joinL]
  | [p], h => by have := h p (by simp); simp [TL.joinL]; omega
  | p :: p2 :: r, h => by
    have h1 := h p (by simp)
    have h2 := joinL_len (S := S) (ps := p2 :: r) fun q hq => h q (List.mem_cons_of_mem _ hq)
    show (p ++ (S ++ TL.joinL S (p2 :: r))).length ≤ _
    rw [List.length_append, List.length_append, List.length_cons, Nat.succ_mul]
    omega
theorem joinL_ne {S : List Nat} : ∀ {ps : List (List Nat)} {p : List Nat}, p ∈ ps → p ≠ [] → TL.joinL S ps ≠ []
  | [q], p, h, hp => by
    rcases List.mem_singleton.mp h with rfl
    exact hp
  | q :: q2 :: r, p, h, hp => by
    show q ++ (S ++ TL.joinL S (q2 :: r)) ≠ []
    rcases List.mem_cons.mp h with rfl | h
    · simp [hp]
    · have := joinL_ne (S := S) h hp
      simp [this]
theorem joinL_hd {S : List Nat} {c : Nat} {r : List Nat} : ∀ {ps : List (List Nat)}, ∃ t, TL.joinL S ((c :: r) :: ps) = c :: t
  | [] => ⟨r, rfl⟩
  | q :: ps => ⟨r ++ (S ++ TL.joinL S (q :: ps)), rfl⟩
/-- a joined text, split again -/
theorem split_joinX {y : Str} {s : Nat} (ey : tl y = [s]) (hs : s < 256) {ps : List Str} (hne : ps ≠ []) (hp : ∀ p ∈ ps, s ∉ tl p) : Txt.split (Txt.join y ps) y = ps :=
  TL.split_join (S := []) ey (by
    have : tl y = y.cps.toList := rfl
    rw [← Array.all_toList, ← this, ey]
    simp [hs]) hne hp
theorem evName_snoc {ns : List Str} {e : Str} (h : ∀ n ∈ ns, NameOk n) : (if evName ns = "-" then e else evName ns ++ "+" ++ e) = evName (ns ++ [e]) := by
  unfold evName
  rw [if_neg (show ns ++ [e] ≠ [] by simp)]
  by_cases q : ns = []
  · subst q
    rw [if_pos rfl, if_pos rfl]
    apply tl_inj
    rw [tl_joinX]
    rfl
  · rw [if_neg q]
    obtain ⟨n, r, rfl⟩ : ∃ n r, ns = n :: r := by
      cases ns with
      | nil => exact absurd rfl q
      | cons n r => exact ⟨n, r, rfl⟩
    have hj : Txt.join "+" (n :: r) ≠ "-" := by
      intro z
      have := congrArg tl z
      obtain ⟨c, t, e1, h1, h2⟩ := (h n (by simp)).hd
      rw [tl_joinX, tl_minus, List.map_cons, e1] at this
      obtain ⟨t2, e2⟩ := joinL_hd (S := tl ("+" : Str)) (c := c) (r := t) (ps := r.map tl)
      rw [e2] at this
      injection this with h3
      omega
    rw [if_neg hj]
    apply tl_inj
    rw [tl_app, tl_app, tl_joinX, tl_joinX, show List.map tl (n :: r ++ [e]) = List.map tl (n :: r) ++ [tl e] by simp, joinL_snoc _ _ _ (by simp), List.append_assoc]
theorem evs_go : ∀ (ns : List Str) (w : List (List Str)), (∀ n ∈ ns, NameOk n) → (∀ s ∈ w, ∀ n ∈ s, NameOk n) →
    ns.foldl (fun told item => told ++ told.map (fun c : Str => if c = ("-" : Str) then item else c ++ "+" ++ item)) (w.map evName) = (ns.foldl (fun w e => w ++ w.map (· ++ [e])) w).map evName
  | [], w, _, _ => rfl
  | e :: ns, w, h, hw => by
    rw [List.foldl_cons, List.foldl_cons]
    have e1 : w.map evName ++ (w.map evName).map (fun c : Str => if c = ("-" : Str) then e else c ++ "+" ++ e) = (w ++ w.map (· ++ [e])).map evName := by
      rw [List.map_append, List.map_map, List.map_map]
      congr 1
      apply List.map_congr_left
      intro s hs
      exact evName_snoc (hw s hs)
    rw [e1]
    refine evs_go ns _ (fun n hn => h n (List.mem_cons_of_mem _ hn)) fun s hs => ?_
    rcases List.mem_append.mp hs with hs | hs
    · exact hw s hs
    · obtain ⟨t, ht, rfl⟩ := List.mem_map.mp hs
      intro n hn
      rcases List.mem_append.mp hn with hn | hn
      · exact hw t ht n hn
      · rcases List.mem_singleton.mp hn with rfl
        exact h _ (by simp)
theorem lawEv_eq {ns : List Str} (h : ∀ n ∈ ns, NameOk n) : lawEv ns = (evSets ns).map evName := by
  have := evs_go ns [[]] h (by simp)
  exact this
/-! the sets of names -/
theorem evs_len : ∀ (ns : List Str) (w : List (List Str)), (ns.foldl (fun w e => w ++ w.map (· ++ [e])) w).length = w.length * 2 ^ ns.length
  | [], w => by simp
  | e :: ns, w => by
    rw [List.foldl_cons, evs_len ns, List.length_append, List.length_map, List.length_cons, Nat.pow_succ]
    rw [← Nat.two_mul, Nat.mul_comm 2, Nat.mul_assoc, Nat.mul_comm 2]
theorem evs_sub : ∀ (ns : List Str) (w : List (List Str)) (m : List Str) (b : Nat), (∀ s ∈ w, (∀ n ∈ s, n ∈ m) ∧ s.length ≤ b) → ∀ s ∈ ns.foldl (fun w e => w ++ w.map (· ++ [e])) w, (∀ n ∈ s, n ∈ m ∨ n ∈ ns) ∧ s.length ≤ b + ns.length
  | [], w, m, b, h, s, hs => ⟨fun n hn => .inl ((h s hs).1 n hn), by have := (h s hs).2; simp; omega⟩
  | e :: ns, w, m, b, h, s, hs => by
    rw [List.foldl_cons] at hs
    obtain ⟨h1, h2⟩ := evs_sub ns (w ++ w.map (· ++ [e])) (m ++ [e]) (b + 1) (fun s hs => by
      rcases List.mem_append.mp hs with hs | hs
      · exact ⟨fun n hn => List.mem_append_left _ ((h s hs).1 n hn), by have := (h s hs).2; omega⟩
      · obtain ⟨t, ht, rfl⟩ := List.mem_map.mp hs
        refine ⟨fun n hn => ?_, by have := (h t ht).2; simp; omega⟩
        rcases List.mem_append.mp hn with hn | hn
        · exact List.mem_append_left _ ((h t ht).1 n hn)
        · exact List.mem_append_right _ hn) s hs
    refine ⟨fun n hn => ?_, by simp only [List.length_cons]; omega⟩
    rcases h1 n hn with z | z
    · rcases List.mem_append.mp z with z | z
      · exact .inl z
      · exact .inr (by rcases List.mem_singleton.mp z with rfl; simp)
    · exact .inr (List.mem_cons_of_mem _ z)
theorem evs_nodup : ∀ (ns : List Str) (w : List (List Str)), ns.Nodup → w.Nodup → (∀ s ∈ w, ∀ n ∈ s, n ∉ ns) → (ns.foldl (fun w e => w ++ w.map (· ++ [e])) w).Nodup
  | [], w, _, hw, _ => hw
  | e :: ns, w, h, hw, hd => by
    rw [List.foldl_cons]
    have h1 := List.nodup_cons.mp h
    refine evs_nodup ns _ h1.2 ?_ ?_
    · rw [List.nodup_append]
      refine ⟨hw, ?_, ?_⟩
      · rw [List.Nodup, List.pairwise_map]
        exact hw.imp fun {a b} hab z => hab (List.append_cancel_right z)
      · intro s hs t ht z
        subst z
        obtain ⟨t, ht, rfl⟩ := List.mem_map.mp ht
        exact hd _ hs e (by simp) (by simp)
    · intro s hs n hn
      rcases List.mem_append.mp hs with hs | hs
      · exact fun z => hd s hs n hn (List.mem_cons_of_mem _ z)
      · obtain ⟨t, ht, rfl⟩ := List.mem_map.mp hs
        rcases List.mem_append.mp hn with hn | hn
        · exact fun z => hd t ht n hn (List.mem_cons_of_mem _ z)
        · rcases List.mem_singleton.mp hn with rfl
          exact h1.1
theorem evSets_len (ns : List Str) : (evSets ns).length = 2 ^ ns.length := by
  have := evs_len ns [[]]
  unfold evSets
  rw [this]
  simp
theorem evSets_mem {ns : List Str} {s : List Str} (h : s ∈ evSets ns) : (∀ n ∈ s, n ∈ ns) ∧ s.length ≤ ns.length := by
  obtain ⟨h1, h2⟩ := evs_sub ns [[]] [] 0 (by simp) s h
  exact ⟨fun n hn => (h1 n hn).elim (fun z => by simp at z) _root_.id, by omega⟩
theorem name_plus {n : Str} (h : NameOk n) : 43 ∉ tl n := fun hx => by rcases h.sg _ hx with z | z <;> omega
theorem name_space {n : Str} (h : NameOk n) : 32 ∉ tl n := h.let.sp
theorem evName_inj {s t : List Str} (hs : ∀ n ∈ s, NameOk n) (ht : ∀ n ∈ t, NameOk n) (h : evName s = evName t) : s = t := by
  have minus : ∀ {s : List Str}, (∀ n ∈ s, NameOk n) → s ≠ [] → evName s ≠ "-" := fun {s} hs q z => by
    unfold evName at z
    rw [if_neg q] at z
    have := congrArg tl z
    obtain ⟨n, r, rfl⟩ : ∃ n r, s = n :: r := by
      cases s with
      | nil => exact absurd rfl q
      | cons n r => exact ⟨n, r, rfl⟩
    obtain ⟨c, t, e1, h1, h2⟩ := (hs n (by simp)).hd
    rw [tl_joinX, tl_minus, List.map_cons, e1] at this
    obtain ⟨t2, e2⟩ := joinL_hd (S := tl ("+" : Str)) (c := c) (r := t) (ps := r.map tl)
    rw [e2] at this
    injection this with h3
    omega
  by_cases q1 : s = []
  · by_cases q2 : t = []
    · rw [q1, q2]
    · subst q1
      exact absurd h.symm (minus ht q2)
  · by_cases q2 : t = []
    · subst q2
      exact absurd h (minus hs q1)
    · unfold evName at h
      rw [if_neg q1, if_neg q2] at h
      have e1 := split_joinX tl_plus (by decide) q1 fun n hn => name_plus (hs n hn)
      have e2 := split_joinX tl_plus (by decide) q2 fun n hn => name_plus (ht n hn)
      rw [← e1, h, e2]
theorem evName_let {s : List Str} (hs : ∀ n ∈ s, NameOk n) (hl : s.length ≤ 3) : LetOk (evName s) := by
  unfold evName
  by_cases q : s = []
  · rw [if_pos q]
    exact ⟨by decide +kernel, by decide +kernel, fun x hx => by rw [tl_minus] at hx; rcases List.mem_singleton.mp hx with rfl; decide⟩
  · rw [if_neg q]
    have e := tl_joinX "+" s
    obtain ⟨n, hn⟩ : ∃ n, n ∈ s := List.exists_mem_of_ne_nil _ q
    refine ⟨?_, ?_, fun x hx => ?_⟩
    · rw [tl_len, e]
      exact List.length_pos_iff.mpr (joinL_ne (List.mem_map.mpr ⟨n, hn, rfl⟩) (hs n hn).ne)
    · -- a few names of eight signs at most
      rw [tl_len, e]
      have l8 : ∀ n ∈ s, (tl n).length ≤ 8 := fun n hn => by have := (hs n hn).l8; rw [tl_len] at this; exact this
      match s, q, hl, l8 with
      | [x], _, _, l8 => have := l8 x (by simp); simp only [List.map_cons, List.map_nil, TL.joinL]; omega
      | [x, y], _, _, l8 =>
        have h1 := l8 x (by simp); have h2 := l8 y (by simp)
        simp only [List.map_cons, List.map_nil, TL.joinL, List.length_append, tl_plus, List.length_cons, List.length_nil]; omega
      | [x, y, z], _, _, l8 =>
        have h1 := l8 x (by simp); have h2 := l8 y (by simp); have h3 := l8 z (by simp)
        simp only [List.map_cons, List.map_nil, TL.joinL, List.length_append, tl_plus, List.length_cons, List.length_nil]; omega
    · rw [e] at hx
      rcases joinL_mem hx with z | ⟨p, hp, z⟩
      · rw [tl_plus] at z; rcases List.mem_singleton.mp z with rfl; decide
      · obtain ⟨n, hn, rfl⟩ := List.mem_map.mp hp
        exact (hs n hn).let.sg x z
/-! grounds -/
structure GoodG (k : Str) (ns : List Str) : Prop where
  kd : (k = "letters" ∧ 2 ≤ ns.length ∧ ns.length ≤ 6) ∨ (k = "events" ∧ 1 ≤ ns.length ∧ ns.length ≤ 3)
  nd : ns.Nodup
  ok : ∀ n ∈ ns, NameOk n
def gtext (k : Str) (ns : List Str) : Str := Txt.join " " (k :: ns)
theorem tl_letters : tl ("letters" : Str) = [108, 101, 116, 116, 101, 114, 115] := by decide +kernel
theorem tl_events : tl ("events" : Str) = [101, 118, 101, 110, 116, 115] := by decide +kernel
theorem ev_ne : ("events" : Str) ≠ "letters" := by decide +kernel
theorem GoodG.k {k : Str} {ns : List Str} (g : GoodG k ns) : 32 ∉ tl k ∧ (tl k).length ≤ 7 ∧ tl k ≠ [] := by
  rcases g.kd with ⟨rfl, _⟩ | ⟨rfl, _⟩
  · rw [tl_letters]; decide
  · rw [tl_events]; decide
theorem GoodG.len {k : Str} {ns : List Str} (g : GoodG k ns) : 2 ≤ (lettersOf k ns).length ∧ (lettersOf k ns).length ≤ 8 := by
  unfold lettersOf
  rcases g.kd with ⟨rfl, h1, h2⟩ | ⟨rfl, h1, h2⟩
  · rw [if_pos rfl]; omega
  · rw [if_neg ev_ne, List.length_map, evSets_len]
    constructor
    · exact Nat.le_trans (by decide : 2 ≤ 2 ^ 1) (Nat.pow_le_pow_right (by decide) h1)
    · exact Nat.le_trans (Nat.pow_le_pow_right (by decide) h2) (by decide : 2 ^ 3 ≤ 8)
theorem GoodG.lets {k : Str} {ns : List Str} (g : GoodG k ns) : ∀ l ∈ lettersOf k ns, LetOk l := by
  intro l hl
  unfold lettersOf at hl
  rcases g.kd with ⟨rfl, h1, h2⟩ | ⟨rfl, h1, h2⟩
  · rw [if_pos rfl] at hl
    exact (g.ok l hl).let
  · rw [if_neg ev_ne] at hl
    obtain ⟨s, hs, rfl⟩ := List.mem_map.mp hl
    obtain ⟨h3, h4⟩ := evSets_mem hs
    exact evName_let (fun n hn => g.ok n (h3 n hn)) (by omega)
theorem GoodG.nodup {k : Str} {ns : List Str} (g : GoodG k ns) : (lettersOf k ns).Nodup := by
  unfold lettersOf
  rcases g.kd with ⟨rfl, h1, h2⟩ | ⟨rfl, h1, h2⟩
  · rw [if_pos rfl]; exact g.nd
  · rw [if_neg ev_ne, List.Nodup, List.pairwise_map]
    have := evs_nodup ns [[]] g.nd (by simp) (by simp)
    refine List.Pairwise.imp_of_mem (fun {s t} hs ht hst z => hst ?_) this
    exact evName_inj (fun n hn => g.ok n ((evSets_mem hs).1 n hn)) (fun n hn => g.ok n ((evSets_mem ht).1 n hn)) z
theorem gtext_split {k : Str} {ns : List Str} (g : GoodG k ns) : Txt.split (gtext k ns) " " = k :: ns := split_joinX tl_space (by decide) (by simp) fun p hp => by
  rcases List.mem_cons.mp hp with rfl | hp
  · exact g.k.1
  · exact name_space (g.ok p hp)
theorem gtext_len {k : Str} {ns : List Str} (g : GoodG k ns) : (gtext k ns).length ≤ 100 := by
  unfold gtext
  rw [tl_len, tl_joinX]
  have h1 : ns.length ≤ 6 := by rcases g.kd with z | z <;> omega
  have := joinL_len (S := tl (" " : Str)) (m := 8) (ps := (k :: ns).map tl) fun p hp => by
    obtain ⟨n, hn, rfl⟩ := List.mem_map.mp hp
    rcases List.mem_cons.mp hn with rfl | hn
    · have := g.k.2.1; omega
    · have := (g.ok n hn).l8; rw [tl_len] at this; exact this
  rw [List.length_map, List.length_cons] at this
  have e : (tl (" " : Str)).length = 1 := by rw [tl_space]; rfl
  rw [e] at this
  omega
theorem gtext_ne {k : Str} {ns : List Str} (g : GoodG k ns) : gtext k ns ≠ "" := by
  intro z
  have := congrArg tl z
  unfold gtext at this
  rw [tl_joinX] at this
  exact joinL_ne (List.mem_map.mpr ⟨k, by simp, rfl⟩) g.k.2.2 this
theorem gtext_inj {k : Str} {ns ms : List Str} (g : GoodG k ns) (h : GoodG k ms) (e : gtext k ns = gtext k ms) : ns = ms := by
  have e1 := gtext_split g
  rw [e, gtext_split h] at e1
  injection e1 with _ e2
  exact e2.symm
end L29

set_option Elab.async false
set_option linter.all false
set_option maxRecDepth 100000
set_option maxHeartbeats 4000000
set_option synthInstance.maxHeartbeats 400000
set_option synthInstance.maxSize 2000
namespace L29
open PySem PySem.Spec PyProof.Rows L2 DL
/-! endless rows: plain theory -/
abbrev Path := List Nat × List Nat
def cyc (t : List Nat) (i : Nat) : Nat := t.getD (i % t.length) 0
def seqAt (p : Path) (i : Nat) : Nat := if i < p.1.length then p.1.getD i 0 else cyc p.2 (i - p.1.length)
def SameSeq (p q : Path) : Prop := ∀ i, seqAt p i = seqAt q i
def Prim (t : List Nat) : Prop := ∀ d, 0 < d → d < t.length → ∃ i, cyc t (i + d) ≠ cyc t i
structure Least (x : Path) : Prop where
  ne : x.2 ≠ []
  pr : Prim x.2
  last : ∀ c u v, x.1 = u ++ [c] → x.2 = v ++ [c] → False
theorem SameSeq.rfl' (p : Path) : SameSeq p p := fun _ => rfl
theorem SameSeq.symm {p q : Path} (h : SameSeq p q) : SameSeq q p := fun i => (h i).symm
theorem SameSeq.trans {p q r : Path} (h : SameSeq p q) (h' : SameSeq q r) : SameSeq p r := fun i => (h i).trans (h' i)
theorem cyc_add (t : List Nat) (i : Nat) : cyc t (i + t.length) = cyc t i := by unfold cyc; rw [Nat.add_mod_right]
theorem seq_hd {p : Path} {i : Nat} (h : i < p.1.length) : seqAt p i = p.1[i] := by
  unfold seqAt
  rw [if_pos h, List.getD_eq_getElem?_getD, List.getElem?_eq_getElem h]
  rfl
theorem seq_tl (p : Path) (i : Nat) : seqAt p (p.1.length + i) = cyc p.2 i := by
  unfold seqAt
  rw [if_neg (by omega), Nat.add_sub_cancel_left]
theorem seq_per (p : Path) {i : Nat} (h : p.1.length ≤ i) : seqAt p (i + p.2.length) = seqAt p i := by
  obtain ⟨j, rfl⟩ := Nat.exists_eq_add_of_le h
  rw [Nat.add_assoc, seq_tl, seq_tl, cyc_add]
theorem per_mul {s : Nat → Nat} {k n : Nat} (h : ∀ i, k ≤ i → s (i + n) = s i) : ∀ (m i : Nat), k ≤ i → s (i + n * m) = s i
  | 0, i, _ => rfl
  | m + 1, i, hi => by
    rw [Nat.mul_succ, ← Nat.add_assoc, h _ (by omega)]
    exact per_mul h m i hi
/-- a period far out is a period from where the row turns -/
theorem per_shift {s : Nat → Nat} {k n K d : Nat} (hn : 0 < n) (h : ∀ i, k ≤ i → s (i + n) = s i) (hd : ∀ i, K ≤ i → s (i + d) = s i) : ∀ i, k ≤ i → s (i + d) = s i := fun i hi => by
  have e1 := per_mul h K (i + d) (by omega)
  have e2 := per_mul h K i hi
  have l : K ≤ n * K := Nat.le_mul_of_pos_left K hn
  have e3 := hd (i + n * K) (by omega)
  rw [← e1, ← e2, ← e3]
  congr 1
  omega
theorem least_le {x p : Path} (hx : Least x) (hp : p.2 ≠ []) (h : SameSeq x p) : x.1.length ≤ p.1.length ∧ x.2.length ≤ p.2.length := by
  have px : ∀ i, x.1.length ≤ i → seqAt x (i + x.2.length) = seqAt x i := fun i hi => seq_per x hi
  have pp : ∀ i, p.1.length ≤ i → seqAt x (i + p.2.length) = seqAt x i := fun i hi => by rw [h, h, seq_per p hi]
  have lx := List.length_pos_iff.mpr hx.ne
  have lp := List.length_pos_iff.mpr hp
  have h2 : x.2.length ≤ p.2.length := by
    refine Nat.le_of_not_lt fun lt => ?_
    obtain ⟨i, hi⟩ := hx.pr p.2.length lp lt
    refine hi ?_
    have := per_shift lx px pp (x.1.length + i) (by omega)
    rw [Nat.add_assoc, seq_tl, seq_tl] at this
    exact this
  refine ⟨?_, h2⟩
  refine Nat.le_of_not_lt fun lt => ?_
  have e := per_shift lp pp px (x.1.length - 1) (by omega)
  obtain ⟨u, c, hu⟩ : ∃ u c, x.1 = u ++ [c] := by
    rcases List.eq_nil_or_concat x.1 with z | ⟨u, c, z⟩
    · rw [z] at lt; simp at lt
    · exact ⟨u, c, by rw [z]; try rw [List.concat_eq_append]⟩
  obtain ⟨v, d, hv⟩ : ∃ v d, x.2 = v ++ [d] := by
    rcases List.eq_nil_or_concat x.2 with z | ⟨u, c, z⟩
    · exact absurd z hx.ne
    · exact ⟨u, c, by rw [z]; try rw [List.concat_eq_append]⟩
  have e1 : seqAt x (x.1.length - 1) = c := by
    rw [seq_hd (by omega)]
    simp [hu]
  have e2 : seqAt x (x.1.length - 1 + x.2.length) = d := by
    have l1 : x.1.length = u.length + 1 := by rw [hu]; simp
    have l2 : x.2.length = v.length + 1 := by rw [hv]; simp
    rw [show x.1.length - 1 + x.2.length = x.1.length + v.length by omega, seq_tl]
    unfold cyc
    rw [Nat.mod_eq_of_lt (by omega), hv]
    simp
  rw [e1, e2] at e
  subst e
  exact hx.last _ u v hu hv
theorem least_uniq {x y : Path} (hx : Least x) (hy : Least y) (h : SameSeq x y) : x = y := by
  have a := least_le hx hy.ne h
  have b := least_le hy hx.ne h.symm
  have l1 : x.1.length = y.1.length := by omega
  have l2 : x.2.length = y.2.length := by omega
  have e1 : x.1 = y.1 := List.ext_getElem l1 fun i h1 h2 => by
    have := h i
    rw [seq_hd h1, seq_hd h2] at this
    exact this
  have e2 : x.2 = y.2 := List.ext_getElem l2 fun i h1 h2 => by
    have := h (x.1.length + i)
    rw [seq_tl, l1, seq_tl] at this
    unfold cyc at this
    rw [Nat.mod_eq_of_lt h1, Nat.mod_eq_of_lt h2] at this
    simpa [List.getD_eq_getElem?_getD, List.getElem?_eq_getElem h1, List.getElem?_eq_getElem h2] using this
  exact Prod.ext e1 e2
def IsL (x p : Path) : Prop := Least x ∧ SameSeq x p
noncomputable def leastF (p : Path) : Path := Classical.epsilon fun x => IsL x p
theorem leastF_is {x p : Path} (h : IsL x p) : leastF p = x := by
  have e : IsL (leastF p) p := Classical.epsilon_spec (p := fun x => IsL x p) ⟨x, h⟩
  exact least_uniq e.1 h.1 (e.2.trans h.2.symm)
theorem leastF_same {p q : Path} (h : SameSeq p q) : leastF p = leastF q := by
  unfold leastF
  congr 1
  funext x
  exact propext ⟨fun z => ⟨z.1, z.2.trans h⟩, fun z => ⟨z.1, z.2.trans h.symm⟩⟩
/-! the least round -/
theorem cyc_lt {t : List Nat} {i : Nat} (h : i < t.length) : cyc t i = t[i] := by
  unfold cyc
  rw [Nat.mod_eq_of_lt h, List.getD_eq_getElem?_getD, List.getElem?_eq_getElem h]
  rfl
theorem min_period {t : List Nat} {n : Nat} (h0 : 0 < n) (hL : n ≤ t.length) (hp : ∀ i, cyc t (i + n) = cyc t i) (hm : ∀ d, 0 < d → d < n → ∃ i, cyc t (i + d) ≠ cyc t i) :
    t.length % n = 0 ∧ (∀ i, cyc (t.take n) i = cyc t i) ∧ Prim (t.take n) := by
  have hpm := fun m i => per_mul (s := cyc t) (k := 0) (fun i _ => hp i) m i (Nat.zero_le _)
  have lt : (t.take n).length = n := by rw [List.length_take]; omega
  have e1 : t.length % n = 0 := by
    refine Classical.byContradiction fun hne => ?_
    obtain ⟨i, hi⟩ := hm (t.length % n) (by omega) (Nat.mod_lt _ h0)
    refine hi ?_
    have := hpm (t.length / n) (i + t.length % n)
    rw [← this, Nat.add_assoc, Nat.mod_add_div, cyc_add]
  have e2 : ∀ i, cyc (t.take n) i = cyc t i := fun i => by
    have h1 : i % n < n := Nat.mod_lt _ h0
    have := hpm (i / n) (i % n)
    rw [Nat.mod_add_div] at this
    rw [this, cyc_lt (t := t) (by omega)]
    unfold cyc
    rw [lt, List.getD_eq_getElem?_getD, List.getElem?_take_of_lt h1, List.getElem?_eq_getElem (by omega)]
    rfl
  refine ⟨e1, e2, fun d hd hl => ?_⟩
  rw [lt] at hl
  obtain ⟨i, hi⟩ := hm d hd hl
  exact ⟨i, by rw [e2, e2]; exact hi⟩
theorem flat_get {u : List Nat} : ∀ (k : Nat) {i : Nat}, i < k * u.length → (List.replicate k u).flatten[i]? = u[i % u.length]?
  | 0, i, h => by simp at h
  | k + 1, i, h => by
    rw [List.replicate_succ, List.flatten_cons]
    by_cases q : i < u.length
    · rw [List.getElem?_append_left q, Nat.mod_eq_of_lt q]
    · rw [List.getElem?_append_right (by omega), flat_get k (by rw [Nat.succ_mul] at h; omega)]
      congr 1
      exact (Nat.mod_eq_sub_mod (by omega)).symm
theorem flat_len (u : List Nat) (k : Nat) : (List.replicate k u).flatten.length = k * u.length := by simp
theorem cyc_flat {u : List Nat} {k : Nat} (hu : u ≠ []) (hk : 0 < k) (i : Nat) : cyc (List.replicate k u).flatten i = cyc u i := by
  have l := List.length_pos_iff.mpr hu
  unfold cyc
  rw [flat_len, List.getD_eq_getElem?_getD, List.getD_eq_getElem?_getD, flat_get k (Nat.mod_lt _ (Nat.mul_pos hk l)), Nat.mod_mul_left_mod]
/-- the size that the program finds -/
def SizeC (t : List Nat) (s : Nat) : Prop := t.length % s = 0 ∧ t = (List.replicate (t.length / s) (t.take s)).flatten
theorem size_per {t : List Nat} {s : Nat} (h0 : 0 < s) (hs : s ≤ t.length) (h : SizeC t s) (i : Nat) : cyc t (i + s) = cyc t i := by
  have lt : (t.take s).length = s := by rw [List.length_take]; omega
  have ne : t.take s ≠ [] := by intro z; rw [z] at lt; simp at lt; omega
  have hk : 0 < t.length / s := Nat.div_pos hs h0
  have e : ∀ j, cyc t j = cyc (t.take s) j := fun j => by
    have := cyc_flat ne hk j
    rw [← h.2] at this
    exact this
  rw [e, e, ← cyc_add (t.take s) i, lt]
theorem per_size {t : List Nat} {n : Nat} (h0 : 0 < n) (hL : n ≤ t.length) (hp : ∀ i, cyc t (i + n) = cyc t i) (hd : t.length % n = 0) : SizeC t n := by
  refine ⟨hd, ?_⟩
  have lt : (t.take n).length = n := by rw [List.length_take]; omega
  have hl : t.length / n * n = t.length := Nat.div_mul_cancel (Nat.dvd_of_mod_eq_zero hd)
  have hpm := fun m i => per_mul (s := cyc t) (k := 0) (fun i _ => hp i) m i (Nat.zero_le _)
  refine List.ext_getElem (by rw [flat_len, lt, hl]) fun i h1 h2 => ?_
  have e1 := flat_get (u := t.take n) (t.length / n) (i := i) (by rw [lt, hl]; exact h1)
  rw [List.getElem?_eq_getElem h2, lt] at e1
  have h3 : i % n < n := Nat.mod_lt _ h0
  rw [List.getElem?_take_of_lt h3, List.getElem?_eq_getElem (by omega)] at e1
  have e2 := Option.some.inj e1
  rw [e2, ← cyc_lt h1, ← cyc_lt (show i % n < t.length by omega)]
  have := hpm (i / n) (i % n)
  rw [Nat.mod_add_div] at this
  exact this
theorem size_min {t : List Nat} {s : Nat} (h0 : 0 < s) (hs : s ≤ t.length) (h : SizeC t s) (hm : ∀ d, 0 < d → d < s → ¬ SizeC t d) : (∀ i, cyc (t.take s) i = cyc t i) ∧ Prim (t.take s) := by
  have hmin : ∀ d, 0 < d → d < s → ∃ i, cyc t (i + d) ≠ cyc t i := by
    intro d
    induction d using Nat.strongRecOn with
    | ind d ih =>
      intro hd hl
      refine Classical.byContradiction fun hno => ?_
      have hp : ∀ i, cyc t (i + d) = cyc t i := fun i => Classical.byContradiction fun z => hno ⟨i, z⟩
      obtain ⟨e1, _, _⟩ := min_period hd (by omega) hp fun d' h1 h2 => ih d' h2 h1 (by omega)
      exact hm d hd hl (per_size hd (by omega) hp e1)
  exact (min_period h0 hs (size_per h0 hs h) hmin).2
/-- .. that the law finds -/
theorem rot_per {t : List Nat} {n : Nat} (h0 : 0 < n) (hL : n ≤ t.length) : t.drop n ++ t.take n = t ↔ ∀ i, cyc t (i + n) = cyc t i := by
  have key : ∀ j, j < t.length → (t.drop n ++ t.take n)[j]? = some (cyc t (j + n)) := fun j hj => by
    by_cases q : j + n < t.length
    · rw [List.getElem?_append_left (by rw [List.length_drop]; omega), List.getElem?_drop, cyc_lt q, List.getElem?_eq_getElem (by omega)]
      congr 2
      omega
    · rw [List.getElem?_append_right (by rw [List.length_drop]; omega), List.length_drop, List.getElem?_take_of_lt (by omega), List.getElem?_eq_getElem (by omega)]
      congr 1
      unfold cyc
      rw [show (j + n) % t.length = j - (t.length - n) by rw [Nat.mod_eq_sub_mod (by omega), Nat.mod_eq_of_lt (by omega)]; omega, List.getD_eq_getElem?_getD, List.getElem?_eq_getElem (by omega)]
      rfl
  have hl : (t.drop n ++ t.take n).length = t.length := by rw [List.length_append, List.length_drop, List.length_take]; omega
  constructor
  · intro e i
    have lt : i % t.length < t.length := Nat.mod_lt _ (by omega)
    have h1 := key (i % t.length) lt
    rw [e, List.getElem?_eq_getElem lt, ← cyc_lt lt] at h1
    have h2 := Option.some.inj h1
    have e1 : cyc t (i % t.length) = cyc t i := by unfold cyc; rw [Nat.mod_mod]
    have e2 : cyc t (i % t.length + n) = cyc t (i + n) := by unfold cyc; rw [Nat.mod_add_mod]
    rw [← e2, ← e1, ← h2]
  · intro h
    refine List.ext_getElem hl fun j h1 h2 => ?_
    have := key j h2
    rw [List.getElem?_eq_getElem h1, h, cyc_lt h2] at this
    exact Option.some.inj this
/-! letters moved between the round and the beginning -/
theorem cyc_rot (c : Nat) (u : List Nat) (i : Nat) : cyc (c :: u) (i + 1) = cyc (u ++ [c]) i := by
  unfold cyc
  simp only [List.length_cons, List.length_append, List.length_nil, Nat.zero_add]
  have h : i % (u.length + 1) < u.length + 1 := Nat.mod_lt _ (by omega)
  rw [← Nat.mod_add_mod i (u.length + 1) 1]
  by_cases q : i % (u.length + 1) = u.length
  · rw [q, Nat.mod_self]; simp
  · rw [Nat.mod_eq_of_lt (show i % (u.length + 1) + 1 < u.length + 1 by omega), List.getD_cons_succ]
    simp only [List.getD_eq_getElem?_getD]
    rw [List.getElem?_append_left (by omega)]
theorem prim_rot {c : Nat} {u : List Nat} (h : Prim (u ++ [c])) : Prim (c :: u) := fun d h0 hl => by
  obtain ⟨i, hi⟩ := h d h0 (by simpa using hl)
  refine ⟨i + 1, ?_⟩
  rw [show i + 1 + d = i + d + 1 by omega, cyc_rot, cyc_rot]
  exact hi
theorem seq_rot (h u : List Nat) (c : Nat) : SameSeq (h ++ [c], u ++ [c]) (h, c :: u) := fun i => by
  by_cases q : i < h.length
  · rw [seq_hd (p := (h ++ [c], u ++ [c])) (by simp; omega), seq_hd (p := (h, c :: u)) q]
    exact List.getElem_append_left q
  · obtain ⟨j, rfl⟩ := Nat.exists_eq_add_of_le (show h.length ≤ i by omega)
    rw [show seqAt (h, c :: u) (h.length + j) = cyc (c :: u) j from seq_tl (h, c :: u) j]
    cases j with
    | zero =>
      rw [seq_hd (p := (h ++ [c], u ++ [c])) (by simp)]
      simp [cyc]
    | succ j =>
      have := seq_tl (h ++ [c], u ++ [c]) j
      simp only [List.length_append, List.length_cons, List.length_nil] at this
      rw [show h.length + (j + 1) = h.length + (0 + 1) + j by omega, this, cyc_rot]
theorem seq_rep {h u : List Nat} {k : Nat} (hu : u ≠ []) (hk : 0 < k) : SameSeq (h, (List.replicate k u).flatten) (h, u) := fun i => by
  unfold seqAt
  split
  · rfl
  · exact cyc_flat hu hk _
theorem seq_cyc {h t u : List Nat} (e : ∀ i, cyc t i = cyc u i) : SameSeq (h, t) (h, u) := fun i => by
  unfold seqAt
  split
  · rfl
  · exact e _
/-! bounds -/
structure PathOk (n : Nat) (p : Path) : Prop where
  l1 : p.1.length ≤ 40
  ne : p.2 ≠ []
  l2 : p.2.length ≤ 20
  lt1 : ∀ x ∈ p.1, x < n
  lt2 : ∀ x ∈ p.2, x < n
theorem seq_lt {n : Nat} {p : Path} (h : PathOk n p) (i : Nat) : seqAt p i < n := by
  unfold seqAt
  split
  · rename_i q
    rw [List.getD_eq_getElem?_getD, List.getElem?_eq_getElem q]
    exact h.lt1 _ (List.getElem_mem _)
  · have l := List.length_pos_iff.mpr h.ne
    have q := Nat.mod_lt (i - p.1.length) l
    unfold cyc
    rw [List.getD_eq_getElem?_getD, List.getElem?_eq_getElem q]
    exact h.lt2 _ (List.getElem_mem _)
theorem PathOk.isl {n : Nat} {x p : Path} (h : PathOk n p) (i : IsL x p) : PathOk n x := by
  have a := least_le i.1 h.ne i.2
  refine ⟨Nat.le_trans a.1 h.l1, i.1.ne, Nat.le_trans a.2 h.l2, fun c hc => ?_, fun c hc => ?_⟩
  · obtain ⟨j, hj, rfl⟩ := List.mem_iff_getElem.mp hc
    rw [← seq_hd hj, i.2]
    exact seq_lt h _
  · obtain ⟨j, hj, rfl⟩ := List.mem_iff_getElem.mp hc
    rw [← cyc_lt hj, ← seq_tl x, i.2]
    exact seq_lt h _
end L29

set_option Elab.async false
set_option linter.all false
set_option maxRecDepth 100000
set_option maxHeartbeats 4000000
set_option synthInstance.maxHeartbeats 400000
set_option synthInstance.maxSize 2000
namespace L29
open PySem PySem.Spec PyProof.Rows L2 DL
/-! words and rows as texts; the objects -/
abbrev dS (ys : List Str) : List D := ys.map .str
abbrev dN (ns : List Nat) : List D := ns.map fun n : Nat => D.int (n : Int)
def sg (L : List Str) (n : Nat) : Str := L.getD n Str.empty
def rparts (L : List Str) (p : Path) : List Str := p.1.map (sg L) ++ [("(" : Str)] ++ (p.2.map (sg L) ++ [(")" : Str)])
def rtext (L : List Str) (p : Path) : Str := Txt.join " " (rparts L p)
def itext (L : List Str) (ls : List Nat) : Str := if ls = [] then "." else Txt.join " " (ls.map (sg L))
theorem sg_at {L : List Str} {n : Nat} (h : n < L.length) : L[n]? = some (sg L n) := by
  unfold sg
  rw [List.getD_eq_getElem?_getD, List.getElem?_eq_getElem h]
  rfl
theorem sg_mem {L : List Str} {n : Nat} (h : n < L.length) : sg L n ∈ L := List.mem_of_getElem? (sg_at h)
theorem sg_inj {L : List Str} (nd : L.Nodup) {m n : Nat} (hm : m < L.length) (hn : n < L.length) (e : sg L m = sg L n) : m = n := by
  have h1 := sg_at hm
  have h2 := sg_at hn
  rw [List.getElem?_eq_getElem hm] at h1
  rw [List.getElem?_eq_getElem hn] at h2
  exact (List.getElem_inj nd).mp ((Option.some.inj h1).trans (e.trans (Option.some.inj h2).symm))
theorem map_sg_inj {L : List Str} (nd : L.Nodup) : ∀ {a b : List Nat}, (∀ x ∈ a, x < L.length) → (∀ x ∈ b, x < L.length) → a.map (sg L) = b.map (sg L) → a = b
  | [], [], _, _, _ => rfl
  | [], _ :: _, _, _, e => by simp at e
  | _ :: _, [], _, _, e => by simp at e
  | x :: a, y :: b, ha, hb, e => by
    rw [List.map_cons, List.map_cons] at e
    injection e with e1 e2
    rw [sg_inj nd (ha x (by simp)) (hb y (by simp)) e1, map_sg_inj nd (fun z hz => ha z (List.mem_cons_of_mem _ hz)) (fun z hz => hb z (List.mem_cons_of_mem _ hz)) e2]
theorem cut_unique {o : Str} : ∀ {a b c d : List Str}, o ∉ a → o ∉ c → a ++ [o] ++ b = c ++ [o] ++ d → a = c ∧ b = d
  | [], b, [], d, _, _, e => ⟨rfl, by simpa using e⟩
  | [], b, y :: c, d, _, h, e => by
    simp at e
    exact absurd (by rw [e.1]; simp) h
  | x :: a, b, [], d, h, _, e => by
    simp at e
    exact absurd (by rw [e.1]; simp) h
  | x :: a, b, y :: c, d, h, h', e => by
    simp only [List.cons_append] at e
    injection e with e1 e2
    obtain ⟨e3, e4⟩ := cut_unique (a := a) (c := c) (fun z => h (List.mem_cons_of_mem _ z)) (fun z => h' (List.mem_cons_of_mem _ z)) e2
    exact ⟨by rw [e1, e3], e4⟩
section
variable {k : Str} {ns : List Str} (g : GoodG k ns)
include g
theorem sgs_let {ls : List Nat} (h : ∀ x ∈ ls, x < (lettersOf k ns).length) : ∀ s ∈ ls.map (sg (lettersOf k ns)), LetOk s := fun s hs => by
  obtain ⟨x, hx, rfl⟩ := List.mem_map.mp hs
  exact g.lets _ (sg_mem (h x hx))
theorem no_open {ls : List Nat} (h : ∀ x ∈ ls, x < (lettersOf k ns).length) : ("(" : Str) ∉ ls.map (sg (lettersOf k ns)) := fun z => (sgs_let g h _ z).no (.inl (by decide)) tl_open rfl
theorem no_close {ls : List Nat} (h : ∀ x ∈ ls, x < (lettersOf k ns).length) : (")" : Str) ∉ ls.map (sg (lettersOf k ns)) := fun z => (sgs_let g h _ z).no (.inl (by decide)) tl_close rfl
theorem rparts_sp {p : Path} (h : PathOk (lettersOf k ns).length p) : ∀ s ∈ rparts (lettersOf k ns) p, 32 ∉ tl s ∧ s.length ≤ 26 := fun s hs => by
  unfold rparts at hs
  rcases List.mem_append.mp hs with hs | hs
  · rcases List.mem_append.mp hs with hs | hs
    · have := sgs_let g h.lt1 s hs; exact ⟨this.sp, this.l26⟩
    · rcases List.mem_singleton.mp hs with rfl
      exact ⟨by rw [tl_open]; decide, by decide +kernel⟩
  · rcases List.mem_append.mp hs with hs | hs
    · have := sgs_let g h.lt2 s hs; exact ⟨this.sp, this.l26⟩
    · rcases List.mem_singleton.mp hs with rfl
      exact ⟨by rw [tl_close]; decide, by decide +kernel⟩
theorem rtext_split {p : Path} (h : PathOk (lettersOf k ns).length p) : Txt.split (rtext (lettersOf k ns) p) " " = rparts (lettersOf k ns) p :=
  split_joinX tl_space (by decide) (by unfold rparts; simp) fun s hs => (rparts_sp g h s hs).1
omit g in
theorem join_len {y : Str} {s : Nat} (ey : tl y = [s]) {m : Nat} {ps : List Str} (h : ∀ p ∈ ps, p.length ≤ m) : (Txt.join y ps).length ≤ ps.length * (m + 1) := by
  rw [tl_len, tl_joinX]
  have := joinL_len (S := tl y) (m := m) (ps := ps.map tl) fun p hp => by
    obtain ⟨n, hn, rfl⟩ := List.mem_map.mp hp
    have := h n hn; rw [tl_len] at this; exact this
  rw [List.length_map] at this
  have e : (tl y).length = 1 := by rw [ey]; rfl
  rw [e] at this
  exact this
theorem rtext_len {p : Path} (h : PathOk (lettersOf k ns).length p) : (rtext (lettersOf k ns) p).length ≤ 2000 := by
  have := join_len tl_space fun s hs => (rparts_sp g h s hs).2
  have e : (rparts (lettersOf k ns) p).length = p.1.length + p.2.length + 2 := by unfold rparts; simp; omega
  have h1 := h.l1
  have h2 := h.l2
  rw [e] at this
  unfold rtext
  omega
omit g in
theorem rtext_ne {L : List Str} {p : Path} : rtext L p ≠ "" := by
  intro z
  have := congrArg tl z
  unfold rtext at this
  rw [tl_joinX] at this
  exact joinL_ne (p := tl ("(" : Str)) (List.mem_map.mpr ⟨("(" : Str), by unfold rparts; simp, rfl⟩) (by rw [tl_open]; simp) this
theorem rtext_inj {p q : Path} (h : PathOk (lettersOf k ns).length p) (h' : PathOk (lettersOf k ns).length q) (e : rtext (lettersOf k ns) p = rtext (lettersOf k ns) q) : p = q := by
  have e1 := rtext_split g h
  rw [e, rtext_split g h'] at e1
  unfold rparts at e1
  obtain ⟨e2, e3⟩ := cut_unique (no_open g h'.lt1) (no_open g h.lt1) e1
  have e4 := map_sg_inj g.nodup h'.lt1 h.lt1 e2
  have e5 := map_sg_inj g.nodup h'.lt2 h.lt2 (List.append_cancel_right e3)
  exact Prod.ext e4.symm e5.symm
theorem itext_split {ls : List Nat} (h : ∀ x ∈ ls, x < (lettersOf k ns).length) (hn : ls ≠ []) : Txt.split (itext (lettersOf k ns) ls) " " = ls.map (sg (lettersOf k ns)) := by
  unfold itext
  rw [if_neg hn]
  exact split_joinX tl_space (by decide) (by simpa using hn) fun s hs => (sgs_let g h s hs).sp
omit g in
theorem dot_split : Txt.split ("." : Str) " " = [("." : Str)] := split_joinX (ps := [("." : Str)]) tl_space (by decide) (by simp) fun s hs => by
  rcases List.mem_singleton.mp hs with rfl
  rw [tl_dot]; decide
theorem itext_len {ls : List Nat} (h : ∀ x ∈ ls, x < (lettersOf k ns).length) (hl : ls.length ≤ 1000) : (itext (lettersOf k ns) ls).length ≤ 27000 := by
  unfold itext
  split
  · decide +kernel
  · have := join_len tl_space fun s hs => (sgs_let g h s hs).l26
    rw [List.length_map] at this
    omega
theorem itext_ne {ls : List Nat} (h : ∀ x ∈ ls, x < (lettersOf k ns).length) : itext (lettersOf k ns) ls ≠ "" := by
  unfold itext
  split
  · decide +kernel
  · rename_i hn
    intro z
    have := congrArg tl z
    rw [tl_joinX] at this
    obtain ⟨x, hx⟩ : ∃ x, x ∈ ls := List.exists_mem_of_ne_nil _ hn
    refine joinL_ne (p := tl (sg (lettersOf k ns) x)) (List.mem_map.mpr ⟨_, List.mem_map.mpr ⟨x, hx, rfl⟩, rfl⟩) ?_ this
    have := (g.lets _ (sg_mem (h x hx))).l1
    rw [tl_len] at this
    intro z
    rw [z] at this
    simp at this
end
/-! the objects -/
def numK (L : List Str) : List (Key × D) := L.zipIdx.map fun p => (Sum.inr p.1, D.int (p.2 : Nat))
def grD (a : Ad) (k : Str) (ns : List Str) : D := .obj a.C_Ground [("kind", .str k), ("text", .str (gtext k ns)), ("letters", .tup (dS (lettersOf k ns))), ("_names", .tup (dS ns)), ("_numbers", .dK (numK (lettersOf k ns)))]
def wdD (a : Ad) (k : Str) (ns : List Str) (ls : List Nat) : D := .obj a.C_Word [("ground", grD a k ns), ("letters", .tup (dN ls)), ("text", .str (itext (lettersOf k ns) ls))]
def rwD (a : Ad) (k : Str) (ns : List Str) (p : Path) : D := .obj a.C_Row [("ground", grD a k ns), ("beginning", wdD a k ns p.1), ("period", wdD a k ns p.2), ("text", .str (rtext (lettersOf k ns) p))]
theorem memD_str (s : Str) : ∀ ys : List Str, memD (.str s) (dS ys) = decide (s ∈ ys)
  | [] => by simp [memD]
  | y :: ys => by
    have ih := memD_str s ys
    unfold memD at ih ⊢
    show (eqF (.str y) (.str s) || (dS ys).any fun e => eqF e (.str s)) = _
    rw [ih]
    by_cases q : y = s
    · subst q; simp [eqF]
    · simp [eqF, q, Ne.symm q]
theorem flats_str : ∀ ys : List Str, (dS ys).all flatD = true
  | [] => rfl
  | y :: ys => by show (flatD (.str y) && (dS ys).all flatD) = true; rw [flats_str ys]; rfl
theorem cutD_take (xs : List D) (n : Nat) : DL.cutD xs none (some (n : Int)) = xs.take n := by
  unfold DL.cutD
  rw [HT.sIx_none, HT.sIx_nat, List.drop_zero, Nat.sub_zero]
  by_cases h : n ≤ xs.length
  · rw [Nat.min_eq_left h]
  · rw [Nat.min_eq_right (by omega), List.take_of_length_le (Nat.le_refl _), List.take_of_length_le (by omega)]
theorem cutD_drop (xs : List D) (n : Nat) : DL.cutD xs (some (n : Int)) none = xs.drop n := by
  unfold DL.cutD
  rw [HT.sIx_none, HT.sIx_nat]
  by_cases h : n ≤ xs.length
  · rw [Nat.min_eq_left h, List.take_of_length_le (by rw [List.length_drop]; omega)]
  · rw [Nat.min_eq_right (by omega), List.drop_of_length_le (Nat.le_refl _), List.drop_of_length_le (by omega), List.take_nil]
theorem length_dS (ys : List Str) : (dS ys).length = ys.length := by simp
theorem length_dN (ys : List Nat) : (dN ys).length = ys.length := by simp
/-- in a list of texts, the first place of one -/
theorem go_indexS {M : Mp} {Q : QD} {d : D} {a b : List Str} {s : Str} (h : itemsM M d = some (dS (a ++ [s] ++ b))) (h0 : isLM d = true) (hs : s ∉ a) (q : Q (.int (a.length : Nat)) M) : fIndexF d [.str s] M Q := by
  refine ⟨h0, ?_⟩
  rw [h]
  refine ⟨rfl, flats_str _, a.length, .str s, ?_, by simp [eqF], fun m z' hm e => ?_, q⟩
  · rw [List.getElem?_map]; simp
  · rw [List.getElem?_map, List.getElem?_append_left (by simp; omega), List.getElem?_append_left hm, List.getElem?_eq_getElem hm] at e
    cases e
    simp only [eqF, beq_eq_false_iff_ne]
    intro z
    exact hs (by rw [← z]; exact List.getElem_mem _)
theorem go_inS {M : Mp} {Q : QD} {d : D} {ys : List Str} {s : Str} {neg : Bool} (h : itemsM M d = some (dS ys)) (q : Q (.bl (if neg then !decide (s ∈ ys) else decide (s ∈ ys))) M) : fIn neg (.str s) d M Q := by
  unfold fIn
  rw [h]
  refine ⟨rfl, flats_str _, ?_⟩
  rw [memD_str]
  exact q
end L29

set_option Elab.async false
set_option linter.all false
set_option maxRecDepth 100000
set_option maxHeartbeats 4000000
set_option synthInstance.maxHeartbeats 400000
set_option synthInstance.maxSize 2000
namespace L29
open PySem PySem.Spec PyProof.Rows L2 DL
def sp_right_name : aSp := fun ds M Q => ∃ s, ds = [.str s] ∧ NameOk s ∧ Q (.bl true) M
def sp_check_length : aSp := fun ds M Q => ∃ s : Str, ds = [.str s] ∧ s.length ≤ 40000 ∧ Q .non M
def sp_split_words : aSp := fun ds M Q => ∃ s : Str, ds = [.str s] ∧ s ≠ "" ∧ PyData.strOk s = true ∧ s.length ≤ 40000 ∧ Q (.list (dS (Txt.split s " "))) M
def sp__event_sets : aSp := fun ds M Q => ∃ ns, ds = [.list (dS ns)] ∧ ns.length ≤ 3 ∧ (∀ n ∈ ns, NameOk n) ∧ Q (.list (dS ((evSets ns).map evName))) M
def sp__read_ground : aSp := fun ds M Q => ∃ k ns, ds = [.str (gtext k ns)] ∧ GoodG k ns ∧ Q (.tup [.str k, .list (dS ns)]) M
theorem strOk_of {s : Str} (h : ∀ x ∈ tl s, x < 1000) : PyData.strOk s = true := by
  unfold PyData.strOk
  rw [← Array.all_toList]
  exact List.all_eq_true.mpr fun x hx => by have := h x hx; simp; omega
theorem NameOk.strOk {s : Str} (h : NameOk s) : PyData.strOk s = true := strOk_of fun x hx => by rcases h.sg x hx with z | z <;> omega
theorem LetOk.strOk {s : Str} (h : LetOk s) (h2 : ∀ x ∈ tl s, x < 1000) : PyData.strOk s = true := strOk_of h2
theorem signs_len (z : Str) : (signsD z).length = z.length := by
  unfold signsD
  rw [List.length_map]
  show z.cps.toList.length = z.cps.size
  simp
theorem joinStr_ok {y : Str} (hy : ∀ x ∈ tl y, x < 1000) {ps : List Str} (h : ∀ p ∈ ps, ∀ x ∈ tl p, x < 1000) : PyData.strOk (Txt.join y ps) = true := strOk_of fun x hx => by
  rw [tl_joinX] at hx
  rcases joinL_mem hx with z | ⟨p, hp, z⟩
  · exact hy x z
  · obtain ⟨n, hn, rfl⟩ := List.mem_map.mp hp
    exact h n hn x z
theorem name_low {s : Str} (h : NameOk s) : ∀ x ∈ tl s, x < 1000 := fun x hx => by rcases h.sg x hx with z | z <;> omega
theorem kind_low {k : Str} {ns : List Str} (g : GoodG k ns) : ∀ x ∈ tl k, x < 1000 := by
  rcases g.kd with ⟨rfl, _⟩ | ⟨rfl, _⟩
  · rw [tl_letters]; decide
  · rw [tl_events]; decide
theorem gtext_ok {k : Str} {ns : List Str} (g : GoodG k ns) : PyData.strOk (gtext k ns) = true := joinStr_ok (by rw [tl_space]; decide) fun p hp => by
  rcases List.mem_cons.mp hp with rfl | hp
  · exact kind_low g
  · exact name_low (g.ok p hp)
def seenK (ms : List Str) : List (Key × D) := ms.map fun n => (Sum.inr n, D.bl true)
theorem seen_none {ms : List Str} {s : Str} (h : s ∉ ms) : valD (seenK ms) (Sum.inr s) = none := by
  unfold valD seenK
  rw [List.find?_eq_none.mpr]
  · rfl
  · intro kv hkv
    obtain ⟨n, hn, rfl⟩ := List.mem_map.mp hkv
    have : n ≠ s := fun z => h (z ▸ hn)
    simp [this]
theorem seen_put {ms : List Str} {s : Str} (h : s ∉ ms) : putD (seenK ms) (Sum.inr s) (.bl true) = seenK (ms ++ [s]) := by
  unfold putD
  rw [if_neg]
  · unfold seenK; simp
  · intro z
    obtain ⟨kv, hkv, e⟩ := List.any_eq_true.mp z
    obtain ⟨n, hn, rfl⟩ := List.mem_map.mp hkv
    have e : Sum.inr n = (Sum.inr s : Key) := of_decide_eq_true e
    injection e with e
    exact h (e ▸ hn)
theorem sub_mupd {M M' : Mp} {x : Addr} {c : MC} (h : Sub M M') (hx : M x = none) : Sub M (mupd M' x c) := fun y d e => by
  rw [mupd_ne (fun z => by subst z; rw [hx] at e; cases e)]
  exact h y d e
theorem az_mem (x : Nat) : x ∈ ("abcdefghijklmnopqrstuvwxyz" : Str).cps.toList ↔ (97 ≤ x ∧ x ≤ 122) := by
  have e : ("abcdefghijklmnopqrstuvwxyz" : Str).cps.toList = List.range' 97 26 := by decide +kernel
  rw [e, List.mem_range'_1]
  omega
theorem azn_mem (x : Nat) : x ∈ ("abcdefghijklmnopqrstuvwxyz0123456789" : Str).cps.toList ↔ NameSign x := by
  have e : ("abcdefghijklmnopqrstuvwxyz0123456789" : Str).cps.toList = List.range' 97 26 ++ List.range' 48 10 := by decide +kernel
  rw [e, List.mem_append, List.mem_range'_1, List.mem_range'_1]
  unfold NameSign
  omega
theorem bools_tt : ∀ (ds : List D), bools (ds.map fun _ => D.bl true) = some (ds.map fun _ => true)
  | [] => rfl
  | d :: ds => by
    rw [List.map_cons, bools, bools_tt ds]
    rfl
section
variable {P : Program} {w : World} {K : PySem.W.Frag} {mg : Str → Option Value} {base : Heap} {a : Ad}
theorem ok_check_length (T : TX w K mg a) : FnOk P w K mg base CX0 3 a.f_check_length a.fd_check_length ["text"] (lift K 1 sp_check_length) := by
  refine hid_of ?_; simp (discharger := (with_unfolding_all
    refine okD (k := 2) T.fn_check_length sc_check_length rfl fun cdv A outer s H E hr => ⟨_, _, (dss_one (ds_if (DW.dt (dw_and (dt_tru (de_callB call_isi sl_isi (by rfl) T.b_isinstance (by decide +kernel) (da_cons (dv 0) (da_cons (de_ty (n := "str") (by rfl) T.b_str) da_nil)))) (dw_and1 (dt_cmp op_gt s2_gt (de_callB call_lenA sl_len (by rfl) T.b_len (by decide +kernel) (da_cons (dv 0) da_nil)) (de_globI2 (by rfl) T.c_MOST_CHARACTERS) (nomark _))))) (dss_one ds_never) dss_nil)), fun ds M Q hl h => ?_⟩
    obtain ⟨s, rfl, hs, q⟩ := h
    walk_at "start"
    have h1 : s.length ≤ 1000000 := by omega
    walk_at "goS"
    refine go_iteF (by simp; omega) ?_
    walk_at "go"
    exact Fin.of q)) only [↓hid_eq]
theorem ok_split_words (T : TX w K mg a) : FnOk P w K mg base CX0 1 a.f_split_words a.fd_split_words ["text"] (lift K 1 sp_split_words) := by
  refine hid_of ?_; simp (discharger := (with_unfolding_all
    refine okD (k := 0) T.fn_split_words sc_split_words rfl fun cdv A outer s H E hr => ⟨_, _, (dss_cons (ds_if (dt_cmp (op_eqD hr.units) s2_eq (dv 0) de_str (nomark _)) (dss_one (ds_ret (de_lst da_nil))) dss_nil)
        (dss_one (ds_ret (de_bm PySem.F.plainAttrs_str PySem.F.slot_str_split PySem.F.type_str_split mt_split sm_split (.inr (.inr (.inl rfl))) (dv 0) (da_cons de_str da_nil))))), fun ds M Q hl h => ?_⟩
    obtain ⟨s, rfl, hn, ho, hl, q⟩ := h
    walk_at "start"
    have h1 : s.length ≤ 1000000 := by omega
    walk_at "goS"
    refine go_eqS ho (by decide +kernel) ?_
    refine go_ktest ?_
    refine go_iteF (by simpa using hn) ?_
    walk_at "go"
    exact Fin.of q)) only [↓hid_eq]
theorem ok_right_name (T : TX w K mg a) : FnOk P w K mg base CX0 1 a.f_right_name a.fd_right_name ["value"] (lift K 1 sp_right_name) := by
  refine hid_of ?_; simp (discharger := (with_unfolding_all
    refine okD (k := 0) T.fn_right_name sc_right_name rfl fun cdv A outer s H E hr => ⟨_, _, (dss_cons (ds_if (DW.dt (dw_or (dt_not (dt_tru (de_callB call_isi sl_isi (by rfl) T.b_isinstance (by decide +kernel) (da_cons (dv 0) (da_cons (de_ty (n := "str") (by rfl) T.b_str) da_nil))))) (dw_or1 (dt_not (dt_chain op_le s2_le op_le s2_le de_int (de_callB call_lenA sl_len (by rfl) T.b_len (by decide +kernel) (da_cons (dv 0) da_nil)) de_int))))) (dss_one (ds_ret de_bl)) dss_nil)
        (dss_cons (ds_if (DW.dt (dw_or (dt_cmp (op_notInA (hu_of hr)) s2_in (de_ix (hu_of hr) (dv 0) de_int (fun _ _ => rfl)) (de_globS2 (by rfl) T.c_FIRST_SIGNS) (by rfl)) (dw_or1 (dt_cmp (op_inW T.kd_RESERVED) s2_inW (dv 0) (de_globC (by rfl) T.mg_RESERVED) (by rfl))))) (dss_one (ds_ret de_bl)) dss_nil)
        (dss_one (ds_ret (de_callB (cr_all rfl) sl_all (by rfl) T.b_all (by decide +kernel) (da_cons (de_lc (own := [("sign", 1)]) rfl sc_right_name.nd (di_str (dv 0)) (blkOk_by (by rfl)) (fun _ _ _ _ _ => (dg_name (j := 1) sc_right_name.nd rfl (by first | exact .inl rfl | exact .inr rfl))) (fun _ _ _ _ _ => dts_nil) (fun _ _ _ _ _ => (de_cmp (op_inA (hu_of hr)) s2_in (dv 1) (de_globS2 (by rfl) T.c_SIGNS) (by rfl))) om_name) da_nil)))))), fun ds M Q hl h => ?_⟩
    obtain ⟨s, rfl, hs, q⟩ := h
    walk_at "start"
    have h8 := hs.l8
    have h1 := hs.l1
    have hl : s.length ≤ 1000000 := by omega
    walk_at "goS"
    refine go_iteT (by simp; omega) ?_
    walk_at "goS"
    refine go_iteF (by simp; omega) ?_
    walk_at "goS"
    obtain ⟨c, r, ec, hc⟩ := hs.hd
    have e0 : atI s.cps.toList 0 = some c := by
      rw [atI_0]
      show (tl s)[0]? = some c
      rw [ec]; rfl
    refine go_ixC hl e0 ?_
    walk_at "goS"
    refine go_inSign ?_
    walk_at "goS"
    have az : ∀ x, x ∈ ("abcdefghijklmnopqrstuvwxyz" : Str).cps.toList ↔ (97 ≤ x ∧ x ≤ 122) := az_mem
    refine go_iteF (by simp only [decide_eq_true ((az c).mpr hc)]; rfl) ?_
    walk_at "goS"
    refine go_iteF (by exact decide_eq_false hs.nb) ?_
    walk_at "goS"
    refine ⟨by rw [signs_len]; omega, ?_⟩
    refine go_lcM' (fun _ => .bl true) (fun i d KY KN hd hY => ?_) ?_
    · unfold signsD at hd
      rw [List.getElem?_map] at hd
      obtain ⟨x, hx, rfl⟩ := Option.map_eq_some_iff.mp hd
      walk_at "go"
      refine go_inSign ?_
      have hm : x ∈ ("abcdefghijklmnopqrstuvwxyz0123456789" : Str).cps.toList := (azn_mem x).mpr (hs.sg x (List.mem_of_getElem? hx))
      rw [decide_eq_true hm]
      exact hY
    walk_at "go"
    refine go_all rfl rfl (bools_tt _) ?_
    rw [show ((signsD s).map fun _ => true).all _root_.id = true by simp]
    exact Fin.of q)) only [↓hid_eq]
theorem ok__event_sets (T : TX w K mg a) : FnOk P w K mg base CX0 1 a.f__event_sets a.fd__event_sets ["events"] (lift K 1 sp__event_sets) := by
  refine hid_of ?_; simp (discharger := (with_unfolding_all
    refine okD (k := 0) T.fn__event_sets sc__event_sets rfl fun cdv A outer s H E hr => ⟨_, _, (dss_cons (ds_set (j := 1) sc__event_sets.nd rfl (by first | exact .inl rfl | exact .inr rfl) (de_lst (da_cons (de_lst da_nil) da_nil)))
        (dss_cons (ds_for (di_seq (dv 0)) (dg_name (j := 2) sc__event_sets.nd rfl (by first | exact .inl rfl | exact .inr rfl)) (dss_one (ds_set (j := 1) sc__event_sets.nd rfl (by first | exact .inl rfl | exact .inr rfl) (de_add (dv 1) (de_lc (own := [("names", 3)]) rfl sc__event_sets.nd (di_seq (dv 1)) (blkOk_by (by rfl)) (fun _ _ _ _ _ => (dg_name (j := 3) sc__event_sets.nd rfl (by first | exact .inl rfl | exact .inr rfl))) (fun _ _ _ _ _ => dts_nil) (fun _ _ _ _ _ => (de_add (dv 3) (de_lst (da_cons (dv 2) da_nil)))) om_name)))) PassesOwn.never)
        (dss_one (ds_ret (de_lc (own := [("names", 3)]) rfl sc__event_sets.nd (di_seq (dv 1)) (blkOk_by (by rfl)) (fun _ _ _ _ _ => (dg_name (j := 3) sc__event_sets.nd rfl (by first | exact .inl rfl | exact .inr rfl))) (fun _ _ _ _ _ => dts_nil) (fun _ _ _ _ _ => (de_ifExp (dt_tru (dv 3)) (de_bm PySem.F.plainAttrs_str PySem.F.slot_str_join PySem.F.type_str_join mt_join sm_join (.inr (.inr (.inl rfl))) de_str (da_cons (dv 3) da_nil)) de_str)) om_name))))), fun ds M Q hl h => ?_⟩
    obtain ⟨ns, rfl, hl, ho, q⟩ := h
    walk_at "start"
    walk_at "go"
    refine go_seqK (J := fun G' M' => ∃ x y : Option D, G' = [some (.list (dS ns)), some (.list ((evSets ns).map fun s => .list (dS s))), x, y] ∧ M' = M) (fun nx hk => ?_) (fun G' M' hJ => ?_)
    · walk_at "go"
      refine go_forI (fun i G' M' => ∃ x y : Option D, G' = [some (.list (dS ns)), some (.list ((evSets (ns.take i)).map fun s => .list (dS s))), x, y] ∧ M' = M) ⟨_, _, rfl, rfl⟩ (fun i d G' M' nx' hd hI hn => ?_) (fun G' M' hI => ?_)
      · obtain ⟨x, y, rfl, rfl⟩ := hI
        rw [List.getElem?_map] at hd
        obtain ⟨e, he, rfl⟩ := Option.map_eq_some_iff.mp hd
        have hi : i < ns.length := (List.getElem?_eq_some_iff.mp he).1
        have hev : evSets (ns.take (i + 1)) = evSets (ns.take i) ++ (evSets (ns.take i)).map (· ++ [e]) := by
          have : ns.take (i + 1) = ns.take i ++ [e] := by
            rw [List.take_add_one, he]; rfl
          unfold evSets
          rw [this, List.foldl_append]
          rfl
        have hel : (evSets (ns.take i)).length ≤ 8 := by
          rw [evSets_len]
          exact Nat.le_trans (Nat.pow_le_pow_right (by decide) (by rw [List.length_take]; omega : (ns.take i).length ≤ 3)) (by decide)
        walk_at "go"
        refine go_lcX (F := fun s => .list (dS (s ++ [e]))) (fun s KY KN hs hY => ?_) ?_
        · have hsl : s.length ≤ 3 := by
            have := (evSets_mem hs).2
            rw [List.length_take] at this
            omega
          walk_at "go"
          rw [show dS s ++ [D.str e] = dS (s ++ [e]) by simp]
          exact hY
        walk_at "go"
        refine hn _ _ ⟨some (.str e), y, ?_, rfl⟩
        rw [hev, List.map_append, List.map_map]
        rfl
      · obtain ⟨x, y, rfl, rfl⟩ := hI
        refine hk _ _ ⟨x, y, ?_, rfl⟩
        rw [List.length_map, List.take_length]
    · obtain ⟨x, y, rfl, rfl⟩ := hJ
      have hel : (evSets ns).length ≤ 8 := by
        rw [evSets_len]
        exact Nat.le_trans (Nat.pow_le_pow_right (by decide) hl) (by decide)
      walk_at "go"
      refine go_lcX (F := fun s => .str (evName s)) (fun s KY KN hs hY => ?_) ?_
      · obtain ⟨hm, hsl⟩ := evSets_mem hs
        cases s with
        | nil =>
          walk_at "go"
          exact hY
        | cons n r =>
          walk_at "go"
          refine ⟨by decide +kernel, n :: r, rfl, by omega, fun y hy => by have := (ho y (hm y hy)).l8; omega, ?_⟩
          exact hY
      rw [show dS ((evSets ns).map evName) = (evSets ns).map fun s => D.str (evName s) from List.map_map ..] at q
      exact Fin.of q)) only [↓hid_eq]
theorem ok__read_ground (T : TX w K mg a) : FnOk P w K mg base CX0 3 a.f__read_ground a.fd__read_ground ["line"] (lift K 1 sp__read_ground) := by
  refine hid_of ?_; simp (discharger := (with_unfolding_all
    refine okD (k := 2) T.fn__read_ground sc__read_ground rfl fun cdv A outer s H E hr => ⟨_, _, (dss_cons (ds_if (dt_not (dt_tru (de_callB call_isi sl_isi (by rfl) T.b_isinstance (by decide +kernel) (da_cons (dv 0) (da_cons (de_ty (n := "str") (by rfl) T.b_str) da_nil))))) (dss_one ds_never) dss_nil)
        (dss_cons (ds_set (j := 1) sc__read_ground.nd rfl (by first | exact .inl rfl | exact .inr rfl) (de_call (ok_split_words T) (hr.mono (by decide)) (by rfl) T.mg_split_words T.kp_split_words T.bd_split_words pass0 (da_cons (dv 0) da_nil)))
        (dss_cons (ds_if (DW.dt (dw_or (dt_not (dt_tru (dv 1))) (dw_or1 (dt_cmp (op_notInA (hu_of hr)) s2_in (de_ix (hu_of hr) (dv 1) de_int (fun _ _ => rfl)) (de_tup (da_cons de_str (da_cons de_str da_nil))) (by rfl))))) (dss_one ds_never) dss_nil)
        (dss_cons (ds_set (j := 2) sc__read_ground.nd rfl (by first | exact .inl rfl | exact .inr rfl) de_dnewK)
        (dss_cons (ds_for (di_range2 (by rfl) T.b_range (da_cons de_int (da_cons (de_callB call_lenA sl_len (by rfl) T.b_len (by decide +kernel) (da_cons (dv 1) da_nil)) da_nil))) (dg_name (j := 3) sc__read_ground.nd rfl (by first | exact .inl rfl | exact .inr rfl)) (dss_cons (ds_if (dt_not (dt_tru (de_call (ok_right_name T) (hr.mono (by decide)) (by rfl) T.mg_right_name T.kp_right_name T.bd_right_name pass0 (da_cons (de_ix (hu_of hr) (dv 1) (dv 3) (fun _ _ => rfl)) da_nil)))) (dss_one ds_never) dss_nil)
        (dss_cons (ds_if (dt_cmp (op_inA (hu_of hr)) s2_in (de_ix (hu_of hr) (dv 1) (dv 3) (fun _ _ => rfl)) (dv 2) (by rfl)) (dss_one ds_never) dss_nil)
        (dss_one (ds_dput (hu_of hr) (dv 2) (de_ix (hu_of hr) (dv 1) (dv 3) (fun _ _ => rfl)) de_bl)))) PassesOwn.never)
        (dss_cons (ds_if (DW.dt (dw_or (dt_cmp op_lt s2_lt (de_callB call_lenA sl_len (by rfl) T.b_len (by decide +kernel) (da_cons (dv 2) da_nil)) de_int (nomark _)) (dw_or1 (DW.dt (dw_and (dt_cmp (op_eqD hr.units) s2_eq (de_ix (hu_of hr) (dv 1) de_int (fun _ _ => rfl)) de_str (nomark _)) (dw_and1 (dt_cmp op_lt s2_lt (de_callB call_lenA sl_len (by rfl) T.b_len (by decide +kernel) (da_cons (dv 2) da_nil)) de_int (nomark _)))))))) (dss_one ds_never) dss_nil)
        (dss_one (ds_ret (de_tup (da_cons (de_ix (hu_of hr) (dv 1) de_int (fun _ _ => rfl)) (da_cons (de_slice (dv 1) (do_some de_int) do_none) da_nil))))))))))), fun ds M Q hl h => ?_⟩
    obtain ⟨k, ns, rfl, g, q⟩ := h
    walk_at "start"
    have hl := gtext_len g
    walk_at "goS"
    refine ⟨_, rfl, gtext_ne g, gtext_ok g, by omega, ?_⟩
    rw [gtext_split g]
    have e0 : atI (dS (k :: ns)) 0 = some (.str k) := by rw [atI_0]; rfl
    have hn6 : ns.length ≤ 6 := by rcases g.kd with z | z <;> omega
    have hki : k ∈ [("letters" : Str), "events"] := by rcases g.kd with ⟨h, _⟩ | ⟨h, _⟩ <;> simp [h]
    walk_at "goS"
    refine go_inS (ys := [("letters" : Str), "events"]) rfl ?_
    rw [decide_eq_true hki]
    walk_at "goS"
    intro p hp
    walk_at "go"
    refine go_seqK (J := fun G' M' => ∃ x : Option D, G' = [some (.str (gtext k ns)), some (.list (dS (k :: ns))), some (.ref p), x] ∧ M' = mupd M p (.dK (seenK ns))) (fun nx hk => ?_) (fun G' M' hJ => ?_)
    · walk_at "go"
      have hlen : (((dS (k :: ns)).length : Int) - 1).toNat = ns.length := by simp
      rw [hlen]
      refine go_forI (fun i G' M' => ∃ x : Option D, G' = [some (.str (gtext k ns)), some (.list (dS (k :: ns))), some (.ref p), x] ∧ M' = mupd M p (.dK (seenK (ns.take i)))) ⟨_, rfl, rfl⟩ (fun i d G' M' nx' hd hI hn => ?_) (fun G' M' hI => ?_)
      · obtain ⟨x, rfl, rfl⟩ := hI
        obtain ⟨hi, rfl⟩ := rng_get hd
        have ei : atI (dS (k :: ns)) (1 + (i : Int)) = some (.str ns[i]) := by
          rw [atI_nn _ (by omega), show (1 + (i : Int)).toNat = i + 1 by omega]
          show (dS ns)[i]? = _
          rw [List.getElem?_map, List.getElem?_eq_getElem hi]; rfl
        have hnot : ns[i] ∉ ns.take i := fun z => by
          have hnd := g.nd
          rw [← List.take_append_drop i ns, List.nodup_append] at hnd
          exact hnd.2.2 _ z ns[i] (by rw [List.drop_eq_getElem_cons hi]; exact List.mem_cons_self) rfl
        walk_at "goS"
        refine ⟨_, rfl, g.ok _ (List.getElem_mem _), ?_⟩
        walk_at "goS"
        refine go_inD (itemsM_dK mupd_same) (getDk_dK mupd_same rfl) ?_
        rw [seen_none hnot]
        walk_at "goS"
        refine go_kdputK mupd_same (by unfold seenK; simp; omega) rfl ?_
        rw [seen_put hnot, mupd_mupd]
        refine hn _ _ ⟨_, rfl, ?_⟩
        rw [List.take_add_one, List.getElem?_eq_getElem hi]; rfl
      · obtain ⟨x, rfl, rfl⟩ := hI
        rw [length_rng, List.take_length]
        exact hk _ _ ⟨_, rfl, rfl⟩
    · obtain ⟨x, rfl, rfl⟩ := hJ
      refine go_seq ?_
      walk_at "go"
      refine go_lenD mupd_same ?_
      walk_at "go"
      have hl1 : (seenK ns).length = ns.length := by unfold seenK; simp
      refine go_iteF (by rw [hl1]; rcases g.kd with z | z <;> simp <;> omega) ?_
      walk_at "go"
      refine go_eqS (strOk_of (kind_low g)) (by decide +kernel) ?_
      walk_at "go"
      refine go_ite (fun e => ?_) (fun e => ?_)
      · have ek : k = "letters" := by simpa using e
        have h2 : 2 ≤ ns.length := by
          rcases g.kd with z | z
          · exact z.2.1
          · exact absurd (z.1.symm.trans ek) ev_ne
        walk_at "go"
        refine go_lenD mupd_same ?_
        walk_at "go"
        refine go_iteF (by rw [hl1]; simp; omega) ?_
        walk_at "go"
        rw [show (1 : Int) = ((1 : Nat) : Int) from rfl, cutD_drop]
        exact DL.Fin.sub (sub_mupd (fun _ _ h => h) hp) q
      · walk_at "go"
        rw [show (1 : Int) = ((1 : Nat) : Int) from rfl, cutD_drop]
        exact DL.Fin.sub (sub_mupd (fun _ _ h => h) hp) q)) only [↓hid_eq]
end
end L29

set_option Elab.async false
set_option linter.all false
set_option maxRecDepth 100000
set_option maxHeartbeats 4000000
set_option synthInstance.maxHeartbeats 400000
set_option synthInstance.maxSize 2000
namespace L29
open PySem PySem.Spec PyProof.Rows L2 DL
def sp_Ground___init__ (a : Ad) : aSp := fun ds M Q => ∃ x k ns, ds = [.ref x, .str (gtext k ns)] ∧ GoodG k ns ∧ M x = some (.ins a.C_Ground []) ∧
  Q .non (mupd M x (.ins a.C_Ground [("kind", .str k), ("text", .str (gtext k ns)), ("letters", .tup (dS (lettersOf k ns))), ("_names", .tup (dS ns)), ("_numbers", .dK (numK (lettersOf k ns)))]))
def sp_Ground_number (a : Ad) : aSp := fun ds M Q => ∃ k ns s j, ds = [grD a k ns, .str s] ∧ GoodG k ns ∧ (lettersOf k ns)[j]? = some s ∧ Q (.int (j : Nat)) M
def sp_Ground___eq__ (a : Ad) : aSp := fun ds M Q => ∃ k ns e, ds = [grD a k ns, e] ∧ GoodG k ns ∧
  ((∃ k' ns', e = grD a k' ns' ∧ GoodG k' ns' ∧ Q (.bl (gtext k ns == gtext k' ns')) M) ∨ ((∃ fs, e = .obj a.C_Word fs ∨ e = .obj a.C_Row fs) ∧ Q (.bl false) M))
theorem numK_val : ∀ {L : List Str} (b : Nat) {j : Nat} {s : Str}, L.Nodup → L[j]? = some s → valD ((L.zipIdx b).map fun p => (Sum.inr p.1, D.int (p.2 : Nat))) (Sum.inr s : Key) = some (.int ((b + j : Nat) : Int))
  | [], b, j, s, _, h => by simp at h
  | x :: L, b, 0, s, nd, h => by
    simp at h
    subst h
    unfold valD
    rw [List.zipIdx_cons, List.map_cons, List.find?_cons_of_pos (by simp)]
    rfl
  | x :: L, b, j + 1, s, nd, h => by
    have h1 := List.nodup_cons.mp nd
    simp at h
    have ne : x ≠ s := fun z => h1.1 (z ▸ List.mem_of_getElem? h)
    have ih := numK_val (b + 1) h1.2 h
    unfold valD at ih ⊢
    rw [List.zipIdx_cons, List.map_cons, List.find?_cons_of_neg (by simp [ne])]
    rw [ih]
    congr 3
    omega
theorem numK_put {L : List Str} {b : Nat} {s : Str} (h : s ∉ L) : putD ((L.zipIdx b).map fun p => ((Sum.inr p.1 : Key), D.int (p.2 : Nat))) (Sum.inr s) (.int ((b + L.length : Nat) : Int)) = ((L ++ [s]).zipIdx b).map fun p => (Sum.inr p.1, D.int (p.2 : Nat)) := by
  unfold putD
  rw [if_neg]
  · rw [List.zipIdx_append, List.map_append]; rfl
  · intro z
    obtain ⟨kv, hkv, e⟩ := List.any_eq_true.mp z
    obtain ⟨⟨n, i⟩, hn, rfl⟩ := List.mem_map.mp hkv
    have e : Sum.inr n = (Sum.inr s : Key) := of_decide_eq_true e
    injection e with e
    have := (List.mem_zipIdx hn)
    exact h (e ▸ by rw [this.2.2]; exact List.getElem_mem _)
section
variable {P : Program} {w : World} {K : PySem.W.Frag} {mg : Str → Option Value} {base : Heap} {a : Ad}
theorem ok_Ground___init__ (T : TX w K mg a) : FnOk P w K mg base CX0 4 a.f_Ground___init__ a.fd_Ground___init__ ["self", "line"] (lift K 2 (sp_Ground___init__ a)) := by
  refine hid_of ?_; simp (discharger := (with_unfolding_all
    refine okD (k := 3) T.fn_Ground___init__ sc_Ground___init__ rfl fun cdv A outer s H E hr => ⟨_, _, (dss_cons (ds_expr (de_call (ok_check_length T) (hr.mono (by decide)) (by rfl) T.mg_check_length T.kp_check_length T.bd_check_length pass0 (da_cons (dv 1) da_nil)))
        (dss_cons (ds_asg (de_call (ok__read_ground T) (hr.mono (by decide)) (by rfl) T.mg__read_ground T.kp__read_ground T.bd__read_ground pass0 (da_cons (dv 1) da_nil)) (dg_tup (dgs_cons (dg_name (j := 2) sc_Ground___init__.nd rfl (by first | exact .inl rfl | exact .inr rfl)) (dgs_cons (dg_name (j := 3) sc_Ground___init__.nd rfl (by first | exact .inl rfl | exact .inr rfl)) dgs_nil))))
        (dss_cons (ds_if (DW.dt (dw_and (dt_cmp (op_eqD hr.units) s2_eq (dv 2) de_str (nomark _)) (dw_and1 (dt_cmp op_gt s2_gt (de_callB call_lenA sl_len (by rfl) T.b_len (by decide +kernel) (da_cons (dv 3) da_nil)) (de_globI2 (by rfl) T.c_MOST_LETTERS) (nomark _))))) (dss_one ds_never) dss_nil)
        (dss_cons (ds_if (DW.dt (dw_and (dt_cmp (op_eqD hr.units) s2_eq (dv 2) de_str (nomark _)) (dw_and1 (dt_cmp op_gt s2_gt (de_callB call_lenA sl_len (by rfl) T.b_len (by decide +kernel) (da_cons (dv 3) da_nil)) (de_globI2 (by rfl) T.c_MOST_EVENTS) (nomark _))))) (dss_one ds_never) dss_nil)
        (dss_cons (ds_set (j := 4) sc_Ground___init__.nd rfl (by first | exact .inl rfl | exact .inr rfl) (de_ifExp (dt_cmp (op_eqD hr.units) s2_eq (dv 2) de_str (nomark _)) (dv 3) (de_call (ok__event_sets T) (hr.mono (by decide)) (by rfl) T.mg__event_sets T.kp__event_sets T.bd__event_sets pass0 (da_cons (dv 3) da_nil))))
        (dss_cons (ds_fld (dv 0) (dv 2))
        (dss_cons (ds_fld (dv 0) (dv 1))
        (dss_cons (ds_fld (dv 0) (de_callTy call_tuple_of sl_tuple (by rfl) T.b_tuple (by decide +kernel) (da_cons (dv 4) da_nil)))
        (dss_cons (ds_fld (dv 0) (de_callTy call_tuple_of sl_tuple (by rfl) T.b_tuple (by decide +kernel) (da_cons (dv 3) da_nil)))
        (dss_one (ds_fld (dv 0) (de_dc (own := [("number", 5), ("letter", 6)]) rfl sc_Ground___init__.nd (di_enum (by rfl) T.b_enumerate (da_cons (dv 4) da_nil)) (blkOk_by (by rfl)) (fun _ _ _ _ _ => (dg_tup (dgs_cons (dg_name (j := 5) sc_Ground___init__.nd rfl (by first | exact .inl rfl | exact .inr rfl)) (dgs_cons (dg_name (j := 6) sc_Ground___init__.nd rfl (by first | exact .inl rfl | exact .inr rfl)) dgs_nil)))) (fun _ _ _ _ _ => dts_nil) (fun _ _ _ _ _ => (dv 6)) (fun _ _ _ _ _ => (dv 5)) (om_tup (om_cons om_name (om_cons om_name om_nil))))))))))))))), fun ds M Q hl h => ?_⟩
    obtain ⟨x, k, ns, rfl, g, hx, q⟩ := h
    walk_at "start"
    have hl := gtext_len g
    walk_at "go"
    refine ⟨_, rfl, by omega, ?_⟩
    walk_at "go"
    refine ⟨k, ns, rfl, g, ?_⟩
    walk_at "go"
    refine go_seqK (J := fun G' M' => G' = [some (.ref x), some (.str (gtext k ns)), some (.str k), some (.list (dS ns)), none, none, none] ∧ M = M') (fun nx hk => ?_) (fun G' M' hJ => ?_)
    · walk_at "go"
      refine go_eqS (strOk_of (kind_low g)) (by decide +kernel) ?_
      walk_at "go"
      refine go_ite (fun e => ?_) (fun e => ?_)
      · have ek : k = "letters" := by simpa using e
        have h6 : ns.length ≤ 6 := by rcases g.kd with z | z <;> omega
        walk_at "go"
        refine go_iteF (by simp; omega) ?_
        walk_at "go"
        exact hk _ _ ⟨rfl, rfl⟩
      · walk_at "go"
        exact hk _ _ ⟨rfl, rfl⟩
    · obtain ⟨rfl, rfl⟩ := hJ
      refine go_seqK (J := fun G' M' => G' = [some (.ref x), some (.str (gtext k ns)), some (.str k), some (.list (dS ns)), none, none, none] ∧ M = M') (fun nx hk => ?_) (fun G' M' hJ => ?_)
      · walk_at "go"
        refine go_eqS (strOk_of (kind_low g)) (by decide +kernel) ?_
        walk_at "go"
        refine go_ite (fun e => ?_) (fun e => ?_)
        · have ek : k = "events" := by simpa using e
          have h3 : ns.length ≤ 3 := by
            rcases g.kd with z | z
            · exact absurd (ek.symm.trans z.1) ev_ne
            · omega
          walk_at "go"
          refine go_iteF (by simp; omega) ?_
          walk_at "go"
          exact hk _ _ ⟨rfl, rfl⟩
        · walk_at "go"
          exact hk _ _ ⟨rfl, rfl⟩
      · obtain ⟨rfl, rfl⟩ := hJ
        refine go_seqK (J := fun G' M' => G' = [some (.ref x), some (.str (gtext k ns)), some (.str k), some (.list (dS ns)), some (.list (dS (lettersOf k ns))), none, none] ∧ M = M') (fun nx hk => ?_) (fun G' M' hJ => ?_)
        · walk_at "go"
          refine go_eqS (strOk_of (kind_low g)) (by decide +kernel) ?_
          walk_at "go"
          refine go_ite (fun e => ?_) (fun e => ?_)
          · have ek : k = "letters" := by simpa using e
            walk_at "go"
            refine hk _ _ ⟨?_, rfl⟩
            unfold lettersOf
            rw [if_pos ek]
          · have ek : k ≠ "letters" := by simpa using e
            have h3 : ns.length ≤ 3 := by rcases g.kd with z | z; exact absurd z.1 ek; omega
            walk_at "go"
            refine ⟨ns, rfl, h3, g.ok, ?_⟩
            walk_at "go"
            refine hk _ _ ⟨?_, rfl⟩
            unfold lettersOf
            rw [if_neg ek]
        · obtain ⟨rfl, rfl⟩ := hJ
          have hlen := g.len
          walk_at "go"
          refine go_ksetF hx T.cl_Ground T.na_Ground_kind (Nat.le_of_ble_eq_true rfl) rfl ?_
          walk_at "go"
          refine go_ksetF mupd_same T.cl_Ground T.na_Ground_text (Nat.le_of_ble_eq_true rfl) rfl ?_
          walk_at "go"
          refine go_ksetF mupd_same T.cl_Ground T.na_Ground_letters (Nat.le_of_ble_eq_true rfl) rfl ?_
          walk_at "go"
          refine go_ksetF mupd_same T.cl_Ground T.na_Ground__names (Nat.le_of_ble_eq_true rfl) rfl ?_
          walk_at "go"
          refine go_dcI (fun i acc M' => acc = numK ((lettersOf k ns).take i) ∧ M' = _) ⟨rfl, rfl⟩ (fun i d acc M' KY KN hd hI hY hN => ?_) (fun acc M' hI => ?_)
          · obtain ⟨rfl, rfl⟩ := hI
            obtain ⟨s, hs, rfl⟩ := enumD_get hd
            rw [List.getElem?_map] at hs
            obtain ⟨s, hs2, rfl⟩ := Option.map_eq_some_iff.mp hs
            have hi : i < (lettersOf k ns).length := (List.getElem?_eq_some_iff.mp hs2).1
            have hnot : s ∉ (lettersOf k ns).take i := fun z => by
              have hnd := g.nodup
              rw [← List.take_append_drop i (lettersOf k ns), List.nodup_append] at hnd
              have e : (lettersOf k ns)[i] = s := (List.getElem?_eq_some_iff.mp hs2).2
              exact hnd.2.2 _ z s (by rw [List.drop_eq_getElem_cons hi, e]; exact List.mem_cons_self) rfl
            walk_at "go"
            refine hY _ _ (Sum.inr s) _ rfl ⟨?_, rfl⟩
            have := numK_put (L := (lettersOf k ns).take i) (b := 0) hnot
            rw [List.length_take, Nat.min_eq_left (by omega), Nat.zero_add] at this
            unfold numK
            rw [this, List.take_add_one, hs2]
            rfl
          · obtain ⟨rfl, rfl⟩ := hI
            rw [length_enumD, List.length_map, List.take_length]
            walk_at "go"
            refine go_ksetF mupd_same T.cl_Ground T.na_Ground__numbers (Nat.le_of_ble_eq_true rfl) rfl ?_
            rw [mupd_mupd, mupd_mupd, mupd_mupd, mupd_mupd]
            exact Fin.of q)) only [↓hid_eq]
theorem ok_Ground_number (T : TX w K mg a) : FnOk P w K mg base CX0 3 a.f_Ground_number a.fd_Ground_number ["self", "letter"] (lift K 2 (sp_Ground_number a)) := by
  refine hid_of ?_; simp (discharger := (with_unfolding_all
    refine okD (k := 2) T.fn_Ground_number sc_Ground_number rfl fun cdv A outer s H E hr => ⟨_, _, (dss_cons (ds_if (DW.dt (dw_or (dt_not (dt_tru (de_callB call_isi sl_isi (by rfl) T.b_isinstance (by decide +kernel) (da_cons (dv 1) (da_cons (de_ty (n := "str") (by rfl) T.b_str) da_nil))))) (dw_or1 (dt_cmp (op_notInA (hu_of hr)) s2_in (dv 1) (de_fld (dv 0)) (by rfl))))) (dss_one ds_never) dss_nil)
        (dss_one (ds_ret (de_ix (hu_of hr) (de_fld (dv 0)) (dv 1) (fun _ _ => rfl))))), fun ds M Q hl h => ?_⟩
    obtain ⟨k, ns, s, j, rfl, g, hs, q⟩ := h
    have hc := T.cl_Ground
    have hf := T.na_Ground__numbers
    walk_at "start"
    unfold grD
    walk_at "go"
    have hv : getDk M (.dK (numK (lettersOf k ns))) (.str s) = some (some (.int (j : Nat))) := by
      have := numK_val 0 g.nodup hs
      rw [getDk_dKs (kk := Sum.inr s) rfl]
      unfold numK
      rw [this, Nat.zero_add]
    walk_at "goS"
    refine go_inD rfl hv ?_
    walk_at "goS"
    exact Fin.of q)) only [↓hid_eq]
theorem ok_Ground___eq__ (T : TX w K mg a) : FnOk P w K mg base CX0 1 a.f_Ground___eq__ a.fd_Ground___eq__ ["self", "other"] (lift K 2 (sp_Ground___eq__ a)) := by
  refine hid_of ?_; simp (discharger := (with_unfolding_all
    refine okD (k := 0) T.fn_Ground___eq__ sc_Ground___eq__ rfl fun cdv A outer s H E hr => ⟨_, _, (dss_one (ds_ret (de_and (de_callB call_isi sl_isiW (by rfl) T.b_isinstance (by decide +kernel) (da_cons (dv 1) (da_cons (de_globC (by rfl) T.mg_Ground) da_nil))) (de_one (de_cmp (op_eqD hr.units) s2_eq (de_fld (dv 0)) (de_fld (dv 1)) (nomark _)))))), fun ds M Q hl h => ?_⟩
    obtain ⟨k, ns, e, rfl, g, h⟩ := h
    have hc := T.cl_Ground
    have hf := T.na_Ground_text
    rcases h with ⟨k', ns', rfl, g', q⟩ | ⟨⟨fs, hfs⟩, q⟩
    · unfold grD at *
      walk_at "start"
      walk_at "go"
      refine go_isiS T.oc_Ground ?_
      walk_at "go"
      refine go_eqS (gtext_ok g) (gtext_ok g') ?_
      exact Fin.of q
    · rcases hfs with rfl | rfl
      · walk_at "start"
        walk_at "go"
        refine go_isiX T.oc_Word T.kx_Word_Ground ?_
        walk_at "go"
        exact Fin.of q
      · walk_at "start"
        walk_at "go"
        refine go_isiX T.oc_Row T.kx_Row_Ground ?_
        walk_at "go"
        exact Fin.of q)) only [↓hid_eq]
end
end L29

set_option Elab.async false
set_option linter.all false
set_option maxRecDepth 100000
set_option maxHeartbeats 4000000
set_option synthInstance.maxHeartbeats 400000
set_option synthInstance.maxSize 2000
namespace L29
open PySem PySem.Spec PyProof.Rows L2 DL
def sp__read_letters (a : Ad) : aSp := fun ds M Q => ∃ k ns ls st, ds = [grD a k ns, .list (dS (ls.map (sg (lettersOf k ns)))), .int st] ∧ GoodG k ns ∧ (∀ x ∈ ls, x < (lettersOf k ns).length) ∧ ls.length ≤ 1000 ∧ Q (.list (dN ls)) M
def sp__read_word (a : Ad) : aSp := fun ds M Q => ∃ k ns ls, ds = [grD a k ns, .str (itext (lettersOf k ns) ls)] ∧ GoodG k ns ∧ (∀ x ∈ ls, x < (lettersOf k ns).length) ∧ ls.length ≤ 1000 ∧ Q (.list (dN ls)) M
def sp__written (a : Ad) : aSp := fun ds M Q => ∃ k ns ls, ds = [grD a k ns, .list (dN ls)] ∧ GoodG k ns ∧ (∀ x ∈ ls, x < (lettersOf k ns).length) ∧ ls.length ≤ 1000 ∧ Q (.str (itext (lettersOf k ns) ls)) M
def sp__word (a : Ad) : aSp := fun ds M Q => ∃ k ns ls, ds = [grD a k ns, .list (dN ls)] ∧ GoodG k ns ∧ (∀ x ∈ ls, x < (lettersOf k ns).length) ∧ ls.length ≤ 1000 ∧ Q (wdD a k ns ls) M
def sp_Word___init__ (a : Ad) : aSp := fun ds M Q => ∃ x k ns ls, ds = [.ref x, grD a k ns, .str (itext (lettersOf k ns) ls)] ∧ GoodG k ns ∧ (∀ x ∈ ls, x < (lettersOf k ns).length) ∧ ls.length ≤ 40 ∧ M x = some (.ins a.C_Word []) ∧
  Q .non (mupd M x (.ins a.C_Word [("ground", grD a k ns), ("letters", .tup (dN ls)), ("text", .str (itext (lettersOf k ns) ls))]))
def sp_Word___eq__ (a : Ad) : aSp := fun ds M Q => ∃ k ns ls e, ds = [wdD a k ns ls, e] ∧ GoodG k ns ∧ ls.length ≤ 1000 ∧
  ((∃ k' ns' ls', e = wdD a k' ns' ls' ∧ GoodG k' ns' ∧ ls'.length ≤ 1000 ∧ Q (.bl (gtext k ns == gtext k' ns' && decide (ls = ls'))) M) ∨ ((∃ fs, e = .obj a.C_Ground fs ∨ e = .obj a.C_Row fs) ∧ Q (.bl false) M))
theorem eqvN : ∀ {a b : List Nat}, PyData.eqvAll (toPys (dN a)) (toPys (dN b)) = decide (a = b)
  | [], [] => by simp [toPys, PyData.eqvAll]
  | [], y :: b => by simp [toPys, PyData.eqvAll]
  | x :: a, [] => by simp [toPys, PyData.eqvAll]
  | x :: a, y :: b => by
    have ih := eqvN (a := a) (b := b)
    simp only [List.map_cons, toPys, toPy, PyData.eqvAll, PyData.eqv] at ih ⊢
    rw [ih]
    by_cases q : x = y
    · subst q; simp
    · have : ((x : Int) = (y : Int)) ↔ x = y := by omega
      simp [q, this]
theorem eqOks_dN {n : Nat} : ∀ ls : List Nat, eqOks n (dN ls) = true
  | [] => by simp [eqOks]
  | x :: ls => by
    have := eqOks_dN (n := n) ls
    simp only [List.map_cons, eqOks, eqOk, Bool.true_and] at this ⊢
    exact this
theorem go_eqTN {M : Mp} {Q : QD} {a b : List Nat} (q : Q (.bl (decide (a = b))) M) : fEq (.tup (dN a)) (.tup (dN b)) M Q := by
  refine ⟨?_, ?_, ?_⟩
  · show eqOk 9 (.tup (dN a)) = true
    simp only [eqOk]; exact eqOks_dN a
  · show eqOk 9 (.tup (dN b)) = true
    simp only [eqOk]; exact eqOks_dN b
  · have e : eqv (snap M (.tup (dN a))) (snap M (.tup (dN b))) = decide (a = b) := by
      show PyData.eqv (toPy (.tup (dN a))) (toPy (.tup (dN b))) = _
      simp only [toPy, PyData.eqv]
      exact eqvN
    rw [e]; exact q
theorem let_low {k : Str} {ns : List Str} (g : GoodG k ns) {s : Str} (h : s ∈ lettersOf k ns) : ∀ x ∈ tl s, x < 1000 := by
  unfold lettersOf at h
  split at h
  · exact name_low (g.ok s h)
  · obtain ⟨t, ht, rfl⟩ := List.mem_map.mp h
    intro x hx
    unfold evName at hx
    split at hx
    · rw [tl_minus] at hx; simp at hx; omega
    · rw [tl_joinX] at hx
      rcases joinL_mem hx with z | ⟨p, hp, z⟩
      · rw [tl_plus] at z; simp at z; omega
      · obtain ⟨n, hn, rfl⟩ := List.mem_map.mp hp
        exact name_low (g.ok n ((evSets_mem ht).1 n hn)) x z
theorem itext_ok {k : Str} {ns : List Str} (g : GoodG k ns) {ls : List Nat} (h : ∀ x ∈ ls, x < (lettersOf k ns).length) : PyData.strOk (itext (lettersOf k ns) ls) = true := by
  unfold itext
  split
  · decide +kernel
  · exact joinStr_ok (by rw [tl_space]; decide) fun p hp => by
      obtain ⟨x, hx, rfl⟩ := List.mem_map.mp hp
      exact let_low g (sg_mem (h x hx))
theorem sub_self_upd {M : Mp} {x : Addr} {c : MC} (hx : M x = none) : DL.Sub M (mdel (mupd M x c) x) := fun y d e => by
  have : y ≠ x := fun z => by subst z; rw [hx] at e; cases e
  unfold mdel
  rw [if_neg this, mupd_ne this]
  exact e
section
variable {P : Program} {w : World} {K : PySem.W.Frag} {mg : Str → Option Value} {base : Heap} {a : Ad}
theorem ok__read_letters (T : TX w K mg a) : FnOk P w K mg base CX0 4 a.f__read_letters a.fd__read_letters ["ground", "parts", "start"] (lift K 3 (sp__read_letters a)) := by
  refine hid_of ?_; simp (discharger := (with_unfolding_all
    refine okD (k := 3) T.fn__read_letters sc__read_letters rfl fun cdv A outer s H E hr => ⟨_, _, (dss_cons (ds_set (j := 3) sc__read_letters.nd rfl (by first | exact .inl rfl | exact .inr rfl) (de_lstM da_nil))
        (dss_cons (ds_for (di_enum (by rfl) T.b_enumerate (da_cons (dv 1) da_nil)) (dg_tup (dgs_cons (dg_name (j := 4) sc__read_letters.nd rfl (by first | exact .inl rfl | exact .inr rfl)) (dgs_cons (dg_name (j := 5) sc__read_letters.nd rfl (by first | exact .inl rfl | exact .inr rfl)) dgs_nil))) (dss_cons (ds_if (dt_cmp (op_notInA (hu_of hr)) s2_in (dv 5) (de_fld (dv 0)) (by rfl)) (dss_one ds_never) dss_nil)
        (dss_one (ds_expr (de_bm PySem.F.plainAttrs_list PySem.F.slot_list_append PySem.F.type_list_append mt_append sm_append (.inl rfl) (dv 3) (da_cons (de_meth (dv 0) T.cl_Ground T.me_Ground_number (ok_Ground_number T) (hr.mono (by decide)) T.bd_Ground_number pass0 (da_cons (dv 5) da_nil)) da_nil))))) PassesOwn.never)
        (dss_one (ds_ret (dv 3))))), fun ds M Q hl h => ?_⟩
    obtain ⟨k, ns, ls, st, rfl, g, hls, hl, q⟩ := h
    have hc := T.cl_Ground
    have hf := T.na_Ground_letters
    walk_at "start"
    walk_at "go"
    intro p hp
    walk_at "go"
    refine go_seqK (J := fun G' M' => ∃ x y : Option D, G' = [some (grD a k ns), some (.list (dS (ls.map (sg (lettersOf k ns))))), some (.int st), some (.ref p), x, y] ∧ M' = mupd M p (.lst (dN ls))) (fun nx hk => ?_) (fun G' M' hJ => ?_)
    · walk_at "go"
      refine go_forI (fun i G' M' => ∃ x y : Option D, G' = [some (grD a k ns), some (.list (dS (ls.map (sg (lettersOf k ns))))), some (.int st), some (.ref p), x, y] ∧ M' = mupd M p (.lst (dN (ls.take i)))) ⟨_, _, rfl, rfl⟩ (fun i d G' M' nx' hd hI hn => ?_) (fun G' M' hI => ?_)
      · obtain ⟨x, y, rfl, rfl⟩ := hI
        obtain ⟨s, hs, rfl⟩ := enumD_get hd
        rw [List.getElem?_map, List.getElem?_map] at hs
        obtain ⟨s', hs2, rfl⟩ := Option.map_eq_some_iff.mp hs
        obtain ⟨z, hz, rfl⟩ := Option.map_eq_some_iff.mp hs2
        have hzl : z < (lettersOf k ns).length := hls z (List.mem_of_getElem? hz)
        have hil : i < ls.length := (List.getElem?_eq_some_iff.mp hz).1
        walk_at "goS"
        unfold grD
        walk_at "goS"
        refine go_inS rfl ?_
        rw [decide_eq_true (sg_mem hzl)]
        walk_at "goS"
        refine ⟨k, ns, _, z, rfl, g, sg_at hzl, ?_⟩
        walk_at "go"
        · rw [length_dN, List.length_take]; omega
        rw [mupd_mupd]
        refine hn _ _ ⟨_, _, rfl, ?_⟩
        rw [List.take_add_one, hz]
        simp
      · obtain ⟨x, y, rfl, rfl⟩ := hI
        rw [length_enumD, length_dS, List.length_map, List.take_length]
        exact hk _ _ ⟨_, _, rfl, rfl⟩
    · obtain ⟨x, y, rfl, rfl⟩ := hJ
      walk_at "go"
      exact Fin.list mupd_same hp (sub_self_upd hp) q)) only [↓hid_eq]
theorem ok__read_word (T : TX w K mg a) : FnOk P w K mg base CX0 5 a.f__read_word a.fd__read_word ["ground", "text"] (lift K 2 (sp__read_word a)) := by
  refine hid_of ?_; simp (discharger := (with_unfolding_all
    refine okD (k := 4) T.fn__read_word sc__read_word rfl fun cdv A outer s H E hr => ⟨_, _, (dss_cons (ds_if (dt_not (dt_tru (de_callB call_isi sl_isi (by rfl) T.b_isinstance (by decide +kernel) (da_cons (dv 1) (da_cons (de_ty (n := "str") (by rfl) T.b_str) da_nil))))) (dss_one ds_never) dss_nil)
        (dss_cons (ds_set (j := 2) sc__read_word.nd rfl (by first | exact .inl rfl | exact .inr rfl) (de_call (ok_split_words T) (hr.mono (by decide)) (by rfl) T.mg_split_words T.kp_split_words T.bd_split_words pass0 (da_cons (dv 1) da_nil)))
        (dss_cons (ds_if (dt_not (dt_tru (dv 2))) (dss_one ds_never) dss_nil)
        (dss_cons (ds_if (dt_cmp (op_eqD hr.units) s2_eq (de_ix (hu_of hr) (dv 2) de_int (fun _ _ => rfl)) de_str (nomark _)) (dss_cons (ds_if (dt_cmp op_gt s2_gt (de_callB call_lenA sl_len (by rfl) T.b_len (by decide +kernel) (da_cons (dv 2) da_nil)) de_int (nomark _)) (dss_one ds_never) dss_nil)
        (dss_one (ds_ret (de_lst da_nil)))) dss_nil)
        (dss_one (ds_ret (de_call (ok__read_letters T) (hr.mono (by decide)) (by rfl) T.mg__read_letters T.kp__read_letters T.bd__read_letters pass0 (da_cons (dv 0) (da_cons (dv 2) (da_cons de_int da_nil)))))))))), fun ds M Q hl h => ?_⟩
    obtain ⟨k, ns, ls, rfl, g, hls, hl, q⟩ := h
    have hz := itext_len g hls hl
    walk_at "start"
    walk_at "goS"
    refine ⟨_, rfl, itext_ne g hls, itext_ok g hls, by omega, ?_⟩
    by_cases hn : ls = []
    · subst hn
      have e : Txt.split (itext (lettersOf k ns) []) " " = [("." : Str)] := dot_split
      rw [e]
      have e0 : atI (dS [("." : Str)]) 0 = some (.str ".") := by rw [atI_0]; rfl
      walk_at "goS"
      refine go_eqS (by decide +kernel) (by decide +kernel) ?_
      walk_at "goS"
      exact Fin.of q
    · rw [itext_split g hls hn]
      obtain ⟨x, r, rfl⟩ : ∃ x r, ls = x :: r := by
        cases ls with
        | nil => exact absurd rfl hn
        | cons x r => exact ⟨x, r, rfl⟩
      have hx := hls x (by simp)
      have e0 : atI (dS ((x :: r).map (sg (lettersOf k ns)))) 0 = some (.str (sg (lettersOf k ns) x)) := by rw [atI_0]; rfl
      have hne : sg (lettersOf k ns) x ≠ "." := (g.lets _ (sg_mem hx)).no (.inr rfl) tl_dot
      walk_at "goS"
      refine go_eqS (strOk_of (let_low g (sg_mem hx))) (by decide +kernel) ?_
      walk_at "goS"
      refine go_iteF (by simpa using hne) ?_
      walk_at "goS"
      refine ⟨k, ns, x :: r, 0, rfl, g, hls, hl, ?_⟩
      exact Fin.of q)) only [↓hid_eq]
theorem ok__written (T : TX w K mg a) : FnOk P w K mg base CX0 1 a.f__written a.fd__written ["ground", "letters"] (lift K 2 (sp__written a)) := by
  refine hid_of ?_; simp (discharger := (with_unfolding_all
    refine okD (k := 0) T.fn__written sc__written rfl fun cdv A outer s H E hr => ⟨_, _, (dss_cons (ds_if (dt_not (dt_tru (dv 1))) (dss_one (ds_ret de_str)) dss_nil)
        (dss_one (ds_ret (de_bm PySem.F.plainAttrs_str PySem.F.slot_str_join PySem.F.type_str_join mt_join sm_join (.inr (.inr (.inl rfl))) de_str (da_cons (de_lc (own := [("letter", 2)]) rfl sc__written.nd (di_seq (dv 1)) (blkOk_by (by rfl)) (fun _ _ _ _ _ => (dg_name (j := 2) sc__written.nd rfl (by first | exact .inl rfl | exact .inr rfl))) (fun _ _ _ _ _ => dts_nil) (fun _ _ _ _ _ => (de_ix (hu_of hr) (de_fld (dv 0)) (dv 2) (fun _ _ => rfl))) om_name) da_nil))))), fun ds M Q hl h => ?_⟩
    obtain ⟨k, ns, ls, rfl, g, hls, hl, q⟩ := h
    have hc := T.cl_Ground
    have hf := T.na_Ground_letters
    walk_at "start"
    by_cases hn : ls = []
    · subst hn
      walk_at "goS"
      exact Fin.of q
    · have hb : (dN ls).isEmpty = false := by cases ls with | nil => exact absurd rfl hn | cons x r => rfl
      unfold grD
      walk_at "goS"
      refine go_iteF (by rw [hb]; rfl) ?_
      walk_at "goS"
      refine go_lcX (F := fun z => .str (sg (lettersOf k ns) z)) (fun z KY KN hz hY => ?_) ?_
      · have hzl := hls z hz
        have ez : atI (dS (lettersOf k ns)) (z : Int) = some (.str (sg (lettersOf k ns) z)) := by
          rw [atI_c, List.getElem?_map, sg_at hzl]; rfl
        walk_at "go"
        exact hY
      walk_at "go"
      refine ⟨by decide +kernel, ls.map (sg (lettersOf k ns)), by rw [List.map_map]; rfl, by simp; omega, fun y hy => ?_, ?_⟩
      · have := (sgs_let g hls y hy).l26
        omega
      have e : Txt.join " " (ls.map (sg (lettersOf k ns))) = itext (lettersOf k ns) ls := by unfold itext; rw [if_neg hn]
      rw [e]
      exact Fin.of q)) only [↓hid_eq]
theorem ok_Word___init__ (T : TX w K mg a) : FnOk P w K mg base CX0 6 a.f_Word___init__ a.fd_Word___init__ ["self", "ground", "text"] (lift K 3 (sp_Word___init__ a)) := by
  refine hid_of ?_; simp (discharger := (with_unfolding_all
    refine okD (k := 5) T.fn_Word___init__ sc_Word___init__ rfl fun cdv A outer s H E hr => ⟨_, _, (dss_cons (ds_expr (de_call (ok_check_length T) (hr.mono (by decide)) (by rfl) T.mg_check_length T.kp_check_length T.bd_check_length pass0 (da_cons (dv 2) da_nil)))
        (dss_cons (ds_set (j := 3) sc_Word___init__.nd rfl (by first | exact .inl rfl | exact .inr rfl) (de_call (ok__read_word T) (hr.mono (by decide)) (by rfl) T.mg__read_word T.kp__read_word T.bd__read_word pass0 (da_cons (dv 1) (da_cons (dv 2) da_nil))))
        (dss_cons (ds_if (dt_cmp op_gt s2_gt (de_callB call_lenA sl_len (by rfl) T.b_len (by decide +kernel) (da_cons (dv 3) da_nil)) (de_globI2 (by rfl) T.c_MOST_IN_WORD) (nomark _)) (dss_one ds_never) dss_nil)
        (dss_cons (ds_fld (dv 0) (dv 1))
        (dss_cons (ds_fld (dv 0) (de_callTy call_tuple_of sl_tuple (by rfl) T.b_tuple (by decide +kernel) (da_cons (dv 3) da_nil)))
        (dss_one (ds_fld (dv 0) (dv 2)))))))), fun ds M Q hl h => ?_⟩
    obtain ⟨x, k, ns, ls, rfl, g, hls, hl, hx, q⟩ := h
    have hz := itext_len g hls (by omega)
    walk_at "start"
    walk_at "goS"
    refine ⟨_, rfl, by omega, ?_⟩
    walk_at "goS"
    refine ⟨k, ns, ls, rfl, g, hls, by omega, ?_⟩
    walk_at "goS"
    refine go_iteF (by simp; omega) ?_
    walk_at "goS"
    refine go_ksetF hx T.cl_Word T.na_Word_ground (Nat.le_of_ble_eq_true rfl) rfl ?_
    walk_at "goS"
    refine go_ksetF mupd_same T.cl_Word T.na_Word_letters (Nat.le_of_ble_eq_true rfl) rfl ?_
    walk_at "goS"
    refine go_ksetF mupd_same T.cl_Word T.na_Word_text (Nat.le_of_ble_eq_true rfl) rfl ?_
    rw [mupd_mupd, mupd_mupd]
    exact Fin.of q)) only [↓hid_eq]
theorem ok__word (T : TX w K mg a) : FnOk P w K mg base CX0 8 a.f__word a.fd__word ["ground", "letters"] (lift K 2 (sp__word a)) := by
  refine hid_of ?_; simp (discharger := (with_unfolding_all
    refine okD (k := 7) T.fn__word sc__word rfl fun cdv A outer s H E hr => ⟨_, _, (dss_cons (ds_set (j := 2) sc__word.nd rfl (by first | exact .inl rfl | exact .inr rfl) (de_makeM T.mk_Word (ok_Word___init__ T) (hr.mono (by decide)) (by rfl) T.mg_Word T.bd_Word___init__ pass0 (da_cons (dv 0) (da_cons de_str da_nil))))
        (dss_cons (ds_fld (dv 2) (de_callTy call_tuple_of sl_tuple (by rfl) T.b_tuple (by decide +kernel) (da_cons (dv 1) da_nil)))
        (dss_cons (ds_fld (dv 2) (de_call (ok__written T) (hr.mono (by decide)) (by rfl) T.mg__written T.kp__written T.bd__written pass0 (da_cons (dv 0) (da_cons (dv 1) da_nil))))
        (dss_one (ds_ret (dv 2)))))), fun ds M Q hl h => ?_⟩
    obtain ⟨k, ns, ls, rfl, g, hls, hl, q⟩ := h
    walk_at "start"
    walk_at "goS"
    intro x hx
    refine ⟨x, k, ns, [], rfl, g, by simp, by simp, mupd_same, rfl, ?_⟩
    rw [mupd_mupd]
    walk_at "goS"
    refine go_ksetF mupd_same T.cl_Word T.na_Word_letters (Nat.le_of_ble_eq_true rfl) rfl ?_
    walk_at "goS"
    refine ⟨k, ns, ls, rfl, g, hls, hl, ?_⟩
    walk_at "goS"
    refine go_ksetF mupd_same T.cl_Word T.na_Word_text (Nat.le_of_ble_eq_true rfl) rfl ?_
    walk_at "goS"
    rw [mupd_mupd, mupd_mupd]
    exact DL.Fin.ins mupd_same hx (sub_self_upd hx) q)) only [↓hid_eq]
theorem ok_Word___eq__ (T : TX w K mg a) : FnOk P w K mg base CX0 1 a.f_Word___eq__ a.fd_Word___eq__ ["self", "other"] (lift K 2 (sp_Word___eq__ a)) := by
  refine hid_of ?_; simp (discharger := (with_unfolding_all
    refine okD (k := 0) T.fn_Word___eq__ sc_Word___eq__ rfl fun cdv A outer s H E hr => ⟨_, _, (dss_cons (ds_if (dt_not (dt_tru (de_callB call_isi sl_isiW (by rfl) T.b_isinstance (by decide +kernel) (da_cons (dv 1) (da_cons (de_globC (by rfl) T.mg_Word) da_nil))))) (dss_one (ds_ret de_bl)) dss_nil)
        (dss_one (ds_ret (de_and (de_cmp (op_eqD hr.units) s2_eq (de_fld (de_fld (dv 0))) (de_fld (de_fld (dv 1))) (nomark _)) (de_one (de_cmp (op_eqD hr.units) s2_eq (de_fld (dv 0)) (de_fld (dv 1)) (nomark _))))))), fun ds M Q hl h => ?_⟩
    obtain ⟨k, ns, ls, e, rfl, g, hl, h⟩ := h
    have hc := T.cl_Ground
    have hf := T.na_Ground_text
    have hc2 := T.cl_Word
    have hf2 := T.na_Word_ground
    have hf3 := T.na_Word_letters
    rcases h with ⟨k', ns', ls', rfl, g', hl', q⟩ | ⟨⟨fs, hfs⟩, q⟩
    · unfold wdD grD at *
      walk_at "start"
      walk_at "goS"
      refine go_isiS T.oc_Word ?_
      walk_at "goS"
      refine go_eqS (gtext_ok g) (gtext_ok g') ?_
      walk_at "goS"
      refine go_ite (fun e => ?_) (fun e => ?_)
      · walk_at "goS"
        refine go_eqTN ?_
        rw [e, Bool.true_and] at q
        exact Fin.of q
      · rw [e, Bool.false_and] at q
        exact Fin.of q
    · rcases hfs with rfl | rfl
      · walk_at "start"
        walk_at "goS"
        refine go_isiX T.oc_Ground T.kx_Ground_Word ?_
        walk_at "goS"
        exact Fin.of q
      · walk_at "start"
        walk_at "goS"
        refine go_isiX T.oc_Row T.kx_Row_Word ?_
        walk_at "goS"
        exact Fin.of q)) only [↓hid_eq]
end
end L29

set_option Elab.async false
set_option linter.all false
set_option maxRecDepth 100000
set_option maxHeartbeats 4000000
set_option synthInstance.maxHeartbeats 400000
set_option synthInstance.maxSize 2000
namespace L29
open PySem PySem.Spec PyProof.Rows L2 DL
abbrev dP (p : Path) : D := .tup [.list (dN p.1), .list (dN p.2)]
def sp__read_row (a : Ad) : aSp := fun ds M Q => ∃ k ns p, ds = [grD a k ns, .str (rtext (lettersOf k ns) p)] ∧ GoodG k ns ∧ PathOk (lettersOf k ns).length p ∧ Q (dP p) M
def sp__row_text (a : Ad) : aSp := fun ds M Q => ∃ k ns p, ds = [grD a k ns, .list (dN p.1), .list (dN p.2)] ∧ GoodG k ns ∧ PathOk (lettersOf k ns).length p ∧ Q (.str (rtext (lettersOf k ns) p)) M
def sp__least : aSp := fun ds M Q => ∃ p : Path, ds = [.list (dN p.1), .list (dN p.2)] ∧ p.2 ≠ [] ∧ p.1.length ≤ 1000 ∧ p.2.length ≤ 1000 ∧ ∀ x, IsL x p → Q (dP x) M
theorem cutA (A B : List Str) (o : Str) : DL.cutD (dS (A ++ [o] ++ B)) none (some ((A.length : Nat) : Int)) = dS A := by
  rw [cutD_take, ← List.map_take, List.append_assoc, List.take_left]
theorem cutB (A B : List Str) (o : Str) : DL.cutD (dS (A ++ [o] ++ B)) (some ((A.length : Int) + 1)) none = dS B := by
  rw [show ((A.length : Int) + 1) = ((A.length + 1 : Nat) : Int) by simp, cutD_drop, ← List.map_drop]
  congr 1
  rw [List.drop_append_of_le_length (by simp)]
  rw [show (A ++ [o]).drop (A.length + 1) = [] by apply List.drop_of_length_le; simp]
  rfl
theorem atI_last {α : Type} {ds : List α} {d : α} : atI (ds ++ [d]) (-1) = some d := by
  unfold atI ixN
  rw [if_neg (by decide), if_pos (by simp; omega)]
  have e : ((-1 : Int) + ((ds ++ [d]).length : Int)).toNat = ds.length := by rw [List.length_append, List.length_singleton]; omega
  simp only [Option.bind_some, e]
  rw [List.getElem?_append_right (Nat.le_refl _), Nat.sub_self]
  rfl
theorem cut_init {ds : List D} {d : D} : DL.cutD (ds ++ [d]) none (some (-1)) = ds := by
  unfold DL.cutD
  have e : HT.sIx (ds ++ [d]).length (ds ++ [d]).length (some (-1)) = ds.length := by
    show (if (-1 : Int) < 0 then ((-1 : Int) + ((ds ++ [d]).length : Int)).toNat else min (-1 : Int).toNat (ds ++ [d]).length) = ds.length
    rw [if_pos (by decide), List.length_append, List.length_singleton]
    omega
  rw [HT.sIx_none, List.drop_zero, e, Nat.sub_zero, List.take_left']
  rfl
theorem dN_snoc (u : List Nat) (c : Nat) : dN (u ++ [c]) = dN u ++ [.int (c : Nat)] := List.map_append
theorem dN_flat (u : List Nat) : ∀ k : Nat, (List.replicate k (dN u)).flatten = dN (List.replicate k u).flatten
  | 0 => rfl
  | k + 1 => by
    rw [List.replicate_succ, List.flatten_cons, dN_flat u k, List.replicate_succ, List.flatten_cons]
    exact List.map_append.symm
theorem go_neLN {M : Mp} {Q : QD} {a b : List Nat} (q : Q (.bl (!decide (a = b))) M) : fNe (.list (dN a)) (.list (dN b)) M Q := by
  refine ⟨?_, ?_, ?_⟩
  · show eqOk 9 (.list (dN a)) = true
    simp only [eqOk]; exact eqOks_dN a
  · show eqOk 9 (.list (dN b)) = true
    simp only [eqOk]; exact eqOks_dN b
  · have e : eqv (snap M (.list (dN a))) (snap M (.list (dN b))) = decide (a = b) := by
      show PyData.eqv (toPy (.list (dN a))) (toPy (.list (dN b))) = _
      simp only [toPy, PyData.eqv]
      exact eqvN
    rw [e]; exact q
theorem go_eqLN {M : Mp} {Q : QD} {a b : List Nat} (q : Q (.bl (decide (a = b))) M) : fEq (.list (dN a)) (.list (dN b)) M Q := by
  refine ⟨?_, ?_, ?_⟩
  · show eqOk 9 (.list (dN a)) = true
    simp only [eqOk]; exact eqOks_dN a
  · show eqOk 9 (.list (dN b)) = true
    simp only [eqOk]; exact eqOks_dN b
  · have e : eqv (snap M (.list (dN a))) (snap M (.list (dN b))) = decide (a = b) := by
      show PyData.eqv (toPy (.list (dN a))) (toPy (.list (dN b))) = _
      simp only [toPy, PyData.eqv]
      exact eqvN
    rw [e]; exact q
section
variable {P : Program} {w : World} {K : PySem.W.Frag} {mg : Str → Option Value} {base : Heap} {a : Ad}
theorem ok__read_row (T : TX w K mg a) : FnOk P w K mg base CX0 5 a.f__read_row a.fd__read_row ["ground", "text"] (lift K 2 (sp__read_row a)) := by
  refine hid_of ?_; simp (discharger := (with_unfolding_all
    refine okD (k := 4) T.fn__read_row sc__read_row rfl fun cdv A outer s H E hr => ⟨_, _, (dss_cons (ds_if (dt_not (dt_tru (de_callB call_isi sl_isi (by rfl) T.b_isinstance (by decide +kernel) (da_cons (dv 1) (da_cons (de_ty (n := "str") (by rfl) T.b_str) da_nil))))) (dss_one ds_never) dss_nil)
        (dss_cons (ds_set (j := 2) sc__read_row.nd rfl (by first | exact .inl rfl | exact .inr rfl) (de_call (ok_split_words T) (hr.mono (by decide)) (by rfl) T.mg_split_words T.kp_split_words T.bd_split_words pass0 (da_cons (dv 1) da_nil)))
        (dss_cons (ds_set (j := 3) sc__read_row.nd rfl (by first | exact .inl rfl | exact .inr rfl) (de_ifExp (dt_cmp (op_inA (hu_of hr)) s2_in de_str (dv 2) (by rfl)) (de_bm PySem.F.plainAttrs_list PySem.F.slot_list_index PySem.F.type_list_index mt_index sm_indexF (.inl rfl) (dv 2) (da_cons de_str da_nil)) (de_callB call_lenA sl_len (by rfl) T.b_len (by decide +kernel) (da_cons (dv 2) da_nil))))
        (dss_cons (ds_set (j := 4) sc__read_row.nd rfl (by first | exact .inl rfl | exact .inr rfl) (de_call (ok__read_letters T) (hr.mono (by decide)) (by rfl) T.mg__read_letters T.kp__read_letters T.bd__read_letters pass0 (da_cons (dv 0) (da_cons (de_slice (dv 2) do_none (do_some (dv 3))) (da_cons de_int da_nil)))))
        (dss_cons (ds_set (j := 5) sc__read_row.nd rfl (by first | exact .inl rfl | exact .inr rfl) (de_slice (dv 2) (do_some (de_add (dv 3) de_int)) do_none))
        (dss_cons (ds_set (j := 6) sc__read_row.nd rfl (by first | exact .inl rfl | exact .inr rfl) (de_ifExp (dt_cmp (op_inA (hu_of hr)) s2_in de_str (dv 5) (by rfl)) (de_bm PySem.F.plainAttrs_list PySem.F.slot_list_index PySem.F.type_list_index mt_index sm_indexF (.inl rfl) (dv 5) (da_cons de_str da_nil)) (de_callB call_lenA sl_len (by rfl) T.b_len (by decide +kernel) (da_cons (dv 5) da_nil))))
        (dss_cons (ds_set (j := 7) sc__read_row.nd rfl (by first | exact .inl rfl | exact .inr rfl) (de_call (ok__read_letters T) (hr.mono (by decide)) (by rfl) T.mg__read_letters T.kp__read_letters T.bd__read_letters pass0 (da_cons (dv 0) (da_cons (de_slice (dv 5) do_none (do_some (dv 6))) (da_cons (de_add (dv 3) de_int) da_nil)))))
        (dss_cons (ds_if (dt_cmp (op_eqD hr.units) s2_eq (dv 6) (de_callB call_lenA sl_len (by rfl) T.b_len (by decide +kernel) (da_cons (dv 5) da_nil)) (nomark _)) (dss_one ds_never) dss_nil)
        (dss_cons (ds_if (dt_not (dt_tru (dv 7))) (dss_one ds_never) dss_nil)
        (dss_cons (ds_if (dt_cmp op_lt s2_lt (de_add (dv 6) de_int) (de_callB call_lenA sl_len (by rfl) T.b_len (by decide +kernel) (da_cons (dv 5) da_nil)) (nomark _)) (dss_one ds_never) dss_nil)
        (dss_one (ds_ret (de_tup (da_cons (dv 4) (da_cons (dv 7) da_nil))))))))))))))), fun ds M Q hl h => ?_⟩
    obtain ⟨k, ns, p, rfl, g, hp, q⟩ := h
    have hz := rtext_len g hp
    have hr2 := rtext_split g hp
    have hno := no_open g hp.lt1
    have hno2 := no_close g hp.lt2
    have h1 := hp.l1
    have h2 := hp.l2
    walk_at "start"
    walk_at "goS"
    refine ⟨_, rfl, rtext_ne, ?_, by omega, ?_⟩
    · exact joinStr_ok (by rw [tl_space]; decide) fun s hs => by
        unfold rparts at hs
        rcases List.mem_append.mp hs with hs | hs
        · rcases List.mem_append.mp hs with hs | hs
          · obtain ⟨x, hx, rfl⟩ := List.mem_map.mp hs
            exact let_low g (sg_mem (hp.lt1 x hx))
          · rcases List.mem_singleton.mp hs with rfl
            rw [tl_open]; decide
        · rcases List.mem_append.mp hs with hs | hs
          · obtain ⟨x, hx, rfl⟩ := List.mem_map.mp hs
            exact let_low g (sg_mem (hp.lt2 x hx))
          · rcases List.mem_singleton.mp hs with rfl
            rw [tl_close]; decide
    rw [hr2]
    unfold rparts
    walk_at "goS"
    refine go_inS rfl ?_
    rw [decide_eq_true (show ("(" : Str) ∈ p.1.map (sg (lettersOf k ns)) ++ [("(" : Str)] ++ (p.2.map (sg (lettersOf k ns)) ++ [(")" : Str)]) by simp)]
    walk_at "goS"
    refine go_indexS (a := p.1.map (sg (lettersOf k ns))) (b := p.2.map (sg (lettersOf k ns)) ++ [(")" : Str)]) rfl rfl hno ?_
    walk_at "goS"
    rw [cutA]
    refine ⟨k, ns, p.1, _, rfl, g, hp.lt1, by omega, ?_⟩
    walk_at "goS"
    rw [cutB]
    walk_at "goS"
    refine go_inS rfl ?_
    rw [decide_eq_true (show (")" : Str) ∈ p.2.map (sg (lettersOf k ns)) ++ [(")" : Str)] by simp)]
    walk_at "goS"
    refine go_indexS (a := p.2.map (sg (lettersOf k ns))) (b := []) (by rw [List.append_nil]; rfl) rfl hno2 ?_
    walk_at "goS"
    rw [show p.2.map (sg (lettersOf k ns)) ++ [(")" : Str)] = p.2.map (sg (lettersOf k ns)) ++ [(")" : Str)] ++ [] by simp, cutA]
    refine ⟨k, ns, p.2, _, rfl, g, hp.lt2, by omega, ?_⟩
    walk_at "goS"
    refine go_iteF (by simp; omega) ?_
    walk_at "goS"
    refine go_iteF (by have := hp.ne; cases e : p.2 with | nil => exact absurd e this | cons x r => rfl) ?_
    walk_at "goS"
    refine go_iteF (by simp) ?_
    walk_at "goS"
    exact Fin.of q)) only [↓hid_eq]
theorem ok__row_text (T : TX w K mg a) : FnOk P w K mg base CX0 1 a.f__row_text a.fd__row_text ["ground", "beginning", "period"] (lift K 3 (sp__row_text a)) := by
  refine hid_of ?_; simp (discharger := (with_unfolding_all
    refine okD (k := 0) T.fn__row_text sc__row_text rfl fun cdv A outer s H E hr => ⟨_, _, (dss_cons (ds_set (j := 3) sc__row_text.nd rfl (by first | exact .inl rfl | exact .inr rfl) (de_add (de_lc (own := [("letter", 4)]) rfl sc__row_text.nd (di_seq (dv 1)) (blkOk_by (by rfl)) (fun _ _ _ _ _ => (dg_name (j := 4) sc__row_text.nd rfl (by first | exact .inl rfl | exact .inr rfl))) (fun _ _ _ _ _ => dts_nil) (fun _ _ _ _ _ => (de_ix (hu_of hr) (de_fld (dv 0)) (dv 4) (fun _ _ => rfl))) om_name) (de_lst (da_cons de_str da_nil))))
        (dss_one (ds_ret (de_bm PySem.F.plainAttrs_str PySem.F.slot_str_join PySem.F.type_str_join mt_join sm_join (.inr (.inr (.inl rfl))) de_str (da_cons (de_add (de_add (dv 3) (de_lc (own := [("letter", 4)]) rfl sc__row_text.nd (di_seq (dv 2)) (blkOk_by (by rfl)) (fun _ _ _ _ _ => (dg_name (j := 4) sc__row_text.nd rfl (by first | exact .inl rfl | exact .inr rfl))) (fun _ _ _ _ _ => dts_nil) (fun _ _ _ _ _ => (de_ix (hu_of hr) (de_fld (dv 0)) (dv 4) (fun _ _ => rfl))) om_name)) (de_lst (da_cons de_str da_nil))) da_nil))))), fun ds M Q hl h => ?_⟩
    obtain ⟨k, ns, p, rfl, g, hp, q⟩ := h
    have hc := T.cl_Ground
    have hf := T.na_Ground_letters
    have h1 := hp.l1
    have h2 := hp.l2
    have hlc : ∀ (ls : List Nat), (∀ x ∈ ls, x < (lettersOf k ns).length) → ∀ z ∈ ls, atI (dS (lettersOf k ns)) (z : Int) = some (.str (sg (lettersOf k ns) z)) := fun ls h z hz => by
      rw [atI_c, List.getElem?_map, sg_at (h z hz)]; rfl
    walk_at "start"
    unfold grD
    walk_at "goS"
    refine go_lcX (F := fun z => .str (sg (lettersOf k ns) z)) (fun z KY KN hz hY => ?_) ?_
    · have ez := hlc p.1 hp.lt1 z hz
      walk_at "go"
      exact hY
    walk_at "goS"
    refine go_lcX (F := fun z => .str (sg (lettersOf k ns) z)) (fun z KY KN hz hY => ?_) ?_
    · have ez := hlc p.2 hp.lt2 z hz
      walk_at "go"
      exact hY
    walk_at "goS"
    refine ⟨by decide +kernel, rparts (lettersOf k ns) p, ?_, ?_, fun y hy => by have := (rparts_sp g hp y hy).2; omega, ?_⟩
    · unfold rparts
      simp [itemsM, items, Function.comp_def]
    · unfold rparts
      simp; omega
    exact Fin.of q)) only [↓hid_eq]
theorem ok__least (T : TX w K mg a) : FnOk P w K mg base CX0 1 a.f__least a.fd__least ["beginning", "period"] (lift K 2 sp__least) := by
  refine hid_of ?_; simp (discharger := (with_unfolding_all
    refine okD (k := 0) T.fn__least sc__least rfl fun cdv A outer s H E hr => ⟨_, _, (dss_cons (ds_set (j := 2) sc__least.nd rfl (by first | exact .inl rfl | exact .inr rfl) de_int)
        (dss_cons (ds_while (DW.dt (dw_or (dt_cmp op_gt s2_gt (de_mod (de_callB call_lenA sl_len (by rfl) T.b_len (by decide +kernel) (da_cons (dv 1) da_nil)) (dv 2)) de_int (nomark _)) (dw_or1 (dt_cmp (op_neD hr.units) s2_ne (dv 1) (de_mul (de_slice (dv 1) do_none (do_some (dv 2))) (de_div (de_callB call_lenA sl_len (by rfl) T.b_len (by decide +kernel) (da_cons (dv 1) da_nil)) (dv 2))) (nomark _))))) (dss_one (ds_aug iop_add (s2_I0 fun _ _ _ => .int _) (j := 2) sc__least.nd rfl (by first | exact .inl rfl | exact .inr rfl) de_int)) PassesOwn.never)
        (dss_cons (ds_par (i := 3) (j := 4) sc__least.nd rfl rfl (da_cons (de_callTy call_list_of sl_listM (by rfl) T.b_list (by decide +kernel) (da_cons (dv 0) da_nil)) (da_cons (de_callTy call_list_of sl_list (by rfl) T.b_list (by decide +kernel) (da_cons (de_slice (dv 1) do_none (do_some (dv 2))) da_nil)) da_nil)))
        (dss_cons (ds_while (DW.dt (dw_and (dt_tru (dv 3)) (dw_and1 (dt_cmp (op_eqD hr.units) s2_eq (de_ix (hu_of hr) (dv 3) (de_neg de_int) (fun _ _ => rfl)) (de_ix (hu_of hr) (dv 4) (de_neg de_int) (fun _ _ => rfl)) (nomark _))))) (dss_one (ds_set (j := 4) sc__least.nd rfl (by first | exact .inl rfl | exact .inr rfl) (de_add (de_lst (da_cons (de_bm0 PySem.F.plainAttrs_list PySem.F.slot_list_pop PySem.F.type_list_pop mt_pop sm_pop (.inl rfl) (dv 3)) da_nil)) (de_slice (dv 4) do_none (do_some (de_neg de_int)))))) PassesOwn.never)
        (dss_one (ds_ret (de_tup (da_cons (dv 3) (da_cons (dv 4) da_nil))))))))), fun ds M Q hl h => ?_⟩
    obtain ⟨p, rfl, hne, hl1, hl2, q⟩ := h
    have hL := List.length_pos_iff.mpr hne
    have whole : SizeC p.2 p.2.length := ⟨Nat.mod_self _, by rw [Nat.div_self hL, List.take_length]; simp⟩
    walk_at "start"
    walk_at "go"
    refine go_seqK (J := fun G' M' => ∃ s : Nat, G' = [some (.list (dN p.1)), some (.list (dN p.2)), some (.int (s : Nat)), none, none] ∧ M' = M ∧ 0 < s ∧ s ≤ p.2.length ∧ SizeC p.2 s ∧ ∀ d, 0 < d → d < s → ¬ SizeC p.2 d) (fun nx hk => ?_) (fun G' M' hJ => ?_)
    · refine go_whileI (W := fun m G' M' => ∃ s : Nat, G' = [some (.list (dN p.1)), some (.list (dN p.2)), some (.int (s : Nat)), none, none] ∧ M' = M ∧ 0 < s ∧ s ≤ p.2.length ∧ (∀ d, 0 < d → d < s → ¬ SizeC p.2 d) ∧ m = p.2.length - s) (p.2.length - 1) ⟨1, rfl, rfl, by decide, hL, fun d h0 h1 => by omega, rfl⟩ (fun m G' M' nx' hW hn => ?_)
      obtain ⟨s, rfl, rfl, h0, hs, hmin, rfl⟩ := hW
      have again : ¬ SizeC p.2 s → s + 1 ≤ p.2.length := fun h => by
        refine Classical.byContradiction fun z => h ?_
        have : s = p.2.length := by omega
        rw [this]; exact whole
      have step : ¬ SizeC p.2 s → nx' [some (.list (dN p.1)), some (.list (dN p.2)), some (.int ((s : Nat) + 1)), none, none] M' := fun h => by
        have h1 := again h
        refine hn (p.2.length - (s + 1)) _ _ (by omega) ⟨s + 1, rfl, rfl, by omega, h1, fun d hd hl => ?_, rfl⟩
        by_cases e : d = s
        · subst e; exact h
        · exact hmin d hd (by omega)
      have emod : ((dN p.2).length : Int) % (s : Int) = ((p.2.length % s : Nat) : Int) := by rw [length_dN]; exact (Int.natCast_emod _ _).symm
      have ediv : ((dN p.2).length : Int) / (s : Int) = ((p.2.length / s : Nat) : Int) := by rw [length_dN]; exact (Int.natCast_ediv _ _).symm
      have hdl : p.2.length / s ≤ 1000 := Nat.le_trans (Nat.div_le_self _ _) hl2
      have hml : s * (p.2.length / s) ≤ 1000 := Nat.le_trans (Nat.mul_div_le _ _) hl2
      walk_at "go"
      rw [emod]
      refine go_ite (fun e => ?_) (fun e => ?_)
      · have e := of_decide_eq_true e
        walk_at "go"
        exact step fun z => by have := z.1; omega
      · have e := of_decide_eq_false e
        have e0 : p.2.length % s = 0 := by omega
        walk_at "go"
        try (case k1 => rw [ediv]; exact Int.natCast_nonneg _)
        try (case k2 => rw [ediv]; exact Int.ofNat_le.mpr (Nat.le_trans hdl (by decide)))
        · rw [cutD_take, ← List.map_take, ediv, Int.toNat_natCast, length_dN, List.length_take, Nat.min_eq_left hs]
          exact Nat.le_trans hml (by decide)
        rw [cutD_take, ← List.map_take, ediv, Int.toNat_natCast, dN_flat]
        refine go_neLN ?_
        refine go_ktest ?_
        refine go_ite (fun e2 => ?_) (fun e2 => ?_)
        · have e2 : ¬ p.2 = (List.replicate (p.2.length / s) (p.2.take s)).flatten := by simpa using e2
          walk_at "go"
          exact step fun z => e2 z.2
        · have e2 : p.2 = (List.replicate (p.2.length / s) (p.2.take s)).flatten := by simpa using e2
          exact hk _ _ ⟨s, rfl, rfl, h0, hs, ⟨e0, e2⟩, hmin⟩
    · obtain ⟨s, rfl, rfl, h0, hs, hsz, hmin⟩ := hJ
      obtain ⟨hcy, hpr⟩ := size_min h0 hs hsz hmin
      have htl : (p.2.take s).length = s := by rw [List.length_take]; omega
      walk_at "go"
      intro ph hph
      walk_at "go"
      rw [cutD_take, ← List.map_take]
      refine go_seqK (J := fun G' M2 => ∃ h t : List Nat, G' = [some (.list (dN p.1)), some (.list (dN p.2)), some (.int (s : Nat)), some (.ref ph), some (.list (dN t))] ∧ M2 = mupd M' ph (.lst (dN h)) ∧ IsL (h, t) p) (fun nx hk => ?_) (fun G' M2 hJ => ?_)
      · refine go_whileI (W := fun m G' M2 => ∃ h t : List Nat, G' = [some (.list (dN p.1)), some (.list (dN p.2)), some (.int (s : Nat)), some (.ref ph), some (.list (dN t))] ∧ M2 = mupd M' ph (.lst (dN h)) ∧ SameSeq (h, t) p ∧ Prim t ∧ t.length = s ∧ h.length = m ∧ h.length ≤ 1000) p.1.length ⟨p.1, p.2.take s, rfl, rfl, seq_cyc hcy, hpr, htl, rfl, hl1⟩ (fun m G' M2 nx' hW hn => ?_)
        obtain ⟨h, t, rfl, rfl, hss, hpt, htl2, rfl, hhl⟩ := hW
        have hfin : (∀ c u v, h = u ++ [c] → t = v ++ [c] → False) → IsL (h, t) p := fun hno => ⟨⟨fun z => by rw [show t = [] from z] at htl2; simp at htl2; omega, hpt, hno⟩, hss⟩
        rcases List.eq_nil_or_concat h with e | ⟨u, c, e⟩
        · subst e
          walk_at "go"
          exact hk _ _ ⟨[], t, rfl, rfl, hfin fun c u v z _ => by simp at z⟩
        · have e : h = u ++ [c] := by rw [e]; try rw [List.concat_eq_append]
          subst e
          rcases List.eq_nil_or_concat t with e | ⟨v, d, e⟩
          · subst e; simp at htl2; omega
          have e : t = v ++ [d] := by rw [e]; try rw [List.concat_eq_append]
          subst e
          have ec : atI (dN (u ++ [c])) (-1) = some (.int (c : Nat)) := by rw [dN_snoc]; exact atI_last
          have ed : atI (dN (v ++ [d])) (-1) = some (.int (d : Nat)) := by rw [dN_snoc]; exact atI_last
          walk_at "go"
          refine go_iteT (by rw [dN_snoc]; simp) ?_
          walk_at "go"
          refine go_ite (fun e => ?_) (fun e => ?_)
          · have e : c = d := by have : (c : Int) = (d : Int) := by simpa using e
                                 omega
            subst e
            have epop : (dN (u ++ [c]))[(dN (u ++ [c])).length - 1]? = some (.int (c : Nat)) := by rw [dN_snoc]; simp
            walk_at "go"
            · rw [dN_snoc, cut_init]
              simp at htl2 ⊢
              omega
            rw [mupd_mupd, dN_snoc, dN_snoc, List.dropLast_concat, cut_init]
            walk_at "go"
            refine hn u.length _ _ (by simp) ⟨u, c :: v, rfl, rfl, (seq_rot u v c).symm.trans hss, prim_rot hpt, by simpa using htl2, rfl, by simp at hhl; omega⟩
          · have e : c ≠ d := fun z => by subst z; simp at e
            refine hk _ _ ⟨_, _, rfl, rfl, hfin fun c' u' v' z1 z2 => e ?_⟩
            have h1 := List.append_inj' z1 rfl
            have h2 := List.append_inj' z2 rfl
            simp at h1 h2
            rw [h1.2, h2.2]
      · obtain ⟨h, t, rfl, rfl, hI⟩ := hJ
        walk_at "go"
        refine DL.Fin.deep (L := [ph]) (.tup (.cons (.ref (by simp) mupd_same (dzs_same _)) (dzs_same _))) (by simp) (fun b hb => ?_) (M' := M') (fun b cc e => ?_) (q (h, t) hI)
        · rcases List.mem_singleton.mp hb with rfl
          exact ⟨⟨_, mupd_same⟩, hph⟩
        · rw [mdelL_get, if_neg, mupd_ne]
          · exact e
          · intro z; subst z; rw [hph] at e; cases e
          · intro z; rcases List.mem_singleton.mp z with rfl; rw [hph] at e; cases e)) only [↓hid_eq]
end
end L29

set_option Elab.async false
set_option linter.all false
set_option maxRecDepth 100000
set_option maxHeartbeats 4000000
set_option synthInstance.maxHeartbeats 400000
set_option synthInstance.maxSize 2000
namespace L29
open PySem PySem.Spec PyProof.Rows L2 DL
def sp__row (a : Ad) : aSp := fun ds M Q => ∃ k ns p, ds = [grD a k ns, .list (dN p.1), .list (dN p.2)] ∧ GoodG k ns ∧ PathOk (lettersOf k ns).length p ∧ ∀ x, IsL x p → Q (rwD a k ns x) M
def sp_Row___init__ (a : Ad) : aSp := fun ds M Q => ∃ r k ns p, ds = [.ref r, grD a k ns, .str (rtext (lettersOf k ns) p)] ∧ GoodG k ns ∧ PathOk (lettersOf k ns).length p ∧ M r = some (.ins a.C_Row []) ∧
  ∀ x, IsL x p → Q .non (mupd M r (.ins a.C_Row [("ground", grD a k ns), ("beginning", wdD a k ns x.1), ("period", wdD a k ns x.2), ("text", .str (rtext (lettersOf k ns) x))]))
def sp_Row_of (a : Ad) : aSp := fun ds M Q => ∃ k ns p, ds = [wdD a k ns p.1, wdD a k ns p.2] ∧ GoodG k ns ∧ PathOk (lettersOf k ns).length p ∧ ∀ x, IsL x p → Q (rwD a k ns x) M
def sp_Row_letter (a : Ad) : aSp := fun ds M Q => ∃ k ns p, ∃ n : Nat, ds = [rwD a k ns p, .int (n : Int)] ∧ PathOk (lettersOf k ns).length p ∧ n ≤ 100000 ∧ Q (.int (seqAt p n : Nat)) M
def pref (p : Path) (n : Nat) : List Nat := (List.range n).map (seqAt p)
def sp_Row_first (a : Ad) : aSp := fun ds M Q => ∃ k ns p, ∃ n : Nat, ds = [rwD a k ns p, .int (n : Int)] ∧ GoodG k ns ∧ PathOk (lettersOf k ns).length p ∧ n ≤ 1000 ∧ Q (wdD a k ns (pref p n)) M
def sp_Row_upto (a : Ad) : aGSp := fun ds M Q => ∃ k ns p, ∃ n : Nat, ds = [rwD a k ns p, .int (n : Int)] ∧ PathOk (lettersOf k ns).length p ∧ n ≤ 1000 ∧ Q (dN (pref p n)) M
/-- a plain datum, as isinstance sees it -/
def Plain (M : Mp) (d : D) : Prop := ∃ t, tyD M d = some t
def sp_Row___eq__ (a : Ad) : aSp := fun ds M Q => ∃ k ns p e, ds = [rwD a k ns p, e] ∧ GoodG k ns ∧ PathOk (lettersOf k ns).length p ∧
  ((∃ k' ns' p', e = rwD a k' ns' p' ∧ GoodG k' ns' ∧ PathOk (lettersOf k' ns').length p' ∧ Q (.bl (gtext k ns == gtext k' ns' && rtext (lettersOf k ns) p == rtext (lettersOf k' ns') p')) M) ∨
   ((∃ fs, e = .obj a.C_Ground fs ∨ e = .obj a.C_Word fs) ∧ Q (.bl false) M) ∨ (Plain M e ∧ Q (.bl false) M))
def sp_Row___repr__ (a : Ad) : aSp := fun ds M Q => ∃ k ns p, ds = [rwD a k ns p] ∧ GoodG k ns ∧ PathOk (lettersOf k ns).length p ∧ Q (.str (("Row(" : Str) ++ rtext (lettersOf k ns) p ++ ")")) M
theorem go_neS {M : Mp} {i j : Str} {Q : QD} (h : PyData.strOk i = true) (h2 : PyData.strOk j = true) (q : Q (.bl (!(i == j))) M) : fNe (.str i) (.str j) M Q := ⟨h, h2, q⟩
theorem dN_snoc' (u : List Nat) (f : Nat → Nat) (i : Nat) : dN (u ++ [i].map f) = dN u ++ [.int (f i : Nat)] := List.map_append
theorem app_nil (x : Str) : Str.empty ++ x = x := tl_inj (by rw [tl_app]; rfl)
theorem first_text {L : List Str} (h : 0 < L.length) : ("( " : Str) ++ sg L 0 ++ " )" = rtext L ([], [0]) := by
  apply tl_inj
  unfold rtext
  rw [tl_app, tl_app, tl_joinX]
  have e1 : tl ("( " : Str) = [40] ++ [32] := by decide +kernel
  have e2 : tl (" )" : Str) = [32] ++ [41] := by decide +kernel
  rw [e1, e2]
  unfold rparts
  simp only [List.map_nil, List.map_cons, List.nil_append, List.singleton_append, TL.joinL, tl_open, tl_close, tl_space]
  simp
theorem path0 {n : Nat} (h : 0 < n) : PathOk n ([], [0]) := ⟨by simp, by simp, by simp, by simp, by simpa using h⟩
theorem rtext_ok {k : Str} {ns : List Str} (g : GoodG k ns) {p : Path} (hp : PathOk (lettersOf k ns).length p) : PyData.strOk (rtext (lettersOf k ns) p) = true := joinStr_ok (by rw [tl_space]; decide) fun s hs => by
  unfold rparts at hs
  rcases List.mem_append.mp hs with hs | hs
  · rcases List.mem_append.mp hs with hs | hs
    · obtain ⟨x, hx, rfl⟩ := List.mem_map.mp hs
      exact let_low g (sg_mem (hp.lt1 x hx))
    · rcases List.mem_singleton.mp hs with rfl
      rw [tl_open]; decide
  · rcases List.mem_append.mp hs with hs | hs
    · obtain ⟨x, hx, rfl⟩ := List.mem_map.mp hs
      exact let_low g (sg_mem (hp.lt2 x hx))
    · rcases List.mem_singleton.mp hs with rfl
      rw [tl_close]; decide
section
variable {P : Program} {w : World} {K : PySem.W.Frag} {mg : Str → Option Value} {base : Heap} {a : Ad}
theorem ok_Row___init__ (T : TX w K mg a) : FnOk P w K mg base CX0 9 a.f_Row___init__ a.fd_Row___init__ ["self", "ground", "text"] (lift K 3 (sp_Row___init__ a)) := by
  refine hid_of ?_; simp (discharger := (with_unfolding_all
    refine okD (k := 8) T.fn_Row___init__ sc_Row___init__ rfl fun cdv A outer s H E hr => ⟨_, _, (dss_cons (ds_expr (de_call (ok_check_length T) (hr.mono (by decide)) (by rfl) T.mg_check_length T.kp_check_length T.bd_check_length pass0 (da_cons (dv 2) da_nil)))
        (dss_cons (ds_asg (de_call (ok__read_row T) (hr.mono (by decide)) (by rfl) T.mg__read_row T.kp__read_row T.bd__read_row pass0 (da_cons (dv 1) (da_cons (dv 2) da_nil))) (dg_tup (dgs_cons (dg_name (j := 3) sc_Row___init__.nd rfl (by first | exact .inl rfl | exact .inr rfl)) (dgs_cons (dg_name (j := 4) sc_Row___init__.nd rfl (by first | exact .inl rfl | exact .inr rfl)) dgs_nil))))
        (dss_cons (ds_if (dt_cmp op_gt s2_gt (de_callB call_lenA sl_len (by rfl) T.b_len (by decide +kernel) (da_cons (dv 3) da_nil)) (de_globI2 (by rfl) T.c_MOST_IN_WORD) (nomark _)) (dss_one ds_never) dss_nil)
        (dss_cons (ds_if (dt_cmp op_gt s2_gt (de_callB call_lenA sl_len (by rfl) T.b_len (by decide +kernel) (da_cons (dv 4) da_nil)) (de_globI2 (by rfl) T.c_MOST_IN_ROUND) (nomark _)) (dss_one ds_never) dss_nil)
        (dss_cons (ds_asg (de_call (ok__least T) (hr.mono (by decide)) (by rfl) T.mg__least T.kp__least T.bd__least pass0 (da_cons (dv 3) (da_cons (dv 4) da_nil))) (dg_tup (dgs_cons (dg_name (j := 5) sc_Row___init__.nd rfl (by first | exact .inl rfl | exact .inr rfl)) (dgs_cons (dg_name (j := 6) sc_Row___init__.nd rfl (by first | exact .inl rfl | exact .inr rfl)) dgs_nil))))
        (dss_cons (ds_fld (dv 0) (dv 1))
        (dss_cons (ds_fld (dv 0) (de_call (ok__word T) (hr.mono (by decide)) (by rfl) T.mg__word T.kp__word T.bd__word pass0 (da_cons (dv 1) (da_cons (dv 5) da_nil))))
        (dss_cons (ds_fld (dv 0) (de_call (ok__word T) (hr.mono (by decide)) (by rfl) T.mg__word T.kp__word T.bd__word pass0 (da_cons (dv 1) (da_cons (dv 6) da_nil))))
        (dss_one (ds_fld (dv 0) (de_call (ok__row_text T) (hr.mono (by decide)) (by rfl) T.mg__row_text T.kp__row_text T.bd__row_text pass0 (da_cons (dv 1) (da_cons (dv 5) (da_cons (dv 6) da_nil)))))))))))))), fun ds M Q hl h => ?_⟩
    obtain ⟨r, k, ns, p, rfl, g, hp, hr1, q⟩ := h
    have hz := rtext_len g hp
    have h1 := hp.l1
    have h2 := hp.l2
    walk_at "start"
    walk_at "goS"
    refine ⟨_, rfl, by omega, ?_⟩
    walk_at "goS"
    refine ⟨k, ns, p, rfl, g, hp, ?_⟩
    walk_at "goS"
    refine go_iteF (by simp; omega) ?_
    walk_at "goS"
    refine go_iteF (by simp; omega) ?_
    walk_at "goS"
    refine ⟨p, rfl, hp.ne, by omega, by omega, fun x hx => ?_⟩
    have hxo := hp.isl hx
    walk_at "goS"
    refine go_ksetF hr1 T.cl_Row T.na_Row_ground (Nat.le_of_ble_eq_true rfl) rfl ?_
    walk_at "goS"
    refine ⟨k, ns, x.1, rfl, g, hxo.lt1, by have := hxo.l1; omega, ?_⟩
    walk_at "goS"
    refine go_ksetF mupd_same T.cl_Row T.na_Row_beginning (Nat.le_of_ble_eq_true rfl) rfl ?_
    walk_at "goS"
    refine ⟨k, ns, x.2, rfl, g, hxo.lt2, by have := hxo.l2; omega, ?_⟩
    walk_at "goS"
    refine go_ksetF mupd_same T.cl_Row T.na_Row_period (Nat.le_of_ble_eq_true rfl) rfl ?_
    walk_at "goS"
    refine ⟨k, ns, x, rfl, g, hxo, ?_⟩
    walk_at "goS"
    refine go_ksetF mupd_same T.cl_Row T.na_Row_text (Nat.le_of_ble_eq_true rfl) rfl ?_
    rw [mupd_mupd, mupd_mupd, mupd_mupd]
    exact Fin.of (q x hx))) only [↓hid_eq]
theorem ok__row (T : TX w K mg a) : FnOk P w K mg base CX0 11 a.f__row a.fd__row ["ground", "beginning", "period"] (lift K 3 (sp__row a)) := by
  refine hid_of ?_; simp (discharger := (with_unfolding_all
    refine okD (k := 10) T.fn__row sc__row rfl fun cdv A outer s H E hr => ⟨_, _, (dss_cons (ds_set (j := 3) sc__row.nd rfl (by first | exact .inl rfl | exact .inr rfl) (de_makeM T.mk_Row (ok_Row___init__ T) (hr.mono (by decide)) (by rfl) T.mg_Row T.bd_Row___init__ pass0 (da_cons (dv 0) (da_cons (de_add (de_add de_str (de_ix (hu_of hr) (de_fld (dv 0)) de_int (fun _ _ => rfl))) de_str) da_nil))))
        (dss_cons (ds_asg (de_call (ok__least T) (hr.mono (by decide)) (by rfl) T.mg__least T.kp__least T.bd__least pass0 (da_cons (dv 1) (da_cons (dv 2) da_nil))) (dg_tup (dgs_cons (dg_name (j := 4) sc__row.nd rfl (by first | exact .inl rfl | exact .inr rfl)) (dgs_cons (dg_name (j := 5) sc__row.nd rfl (by first | exact .inl rfl | exact .inr rfl)) dgs_nil))))
        (dss_cons (ds_fld (dv 3) (de_call (ok__word T) (hr.mono (by decide)) (by rfl) T.mg__word T.kp__word T.bd__word pass0 (da_cons (dv 0) (da_cons (dv 4) da_nil))))
        (dss_cons (ds_fld (dv 3) (de_call (ok__word T) (hr.mono (by decide)) (by rfl) T.mg__word T.kp__word T.bd__word pass0 (da_cons (dv 0) (da_cons (dv 5) da_nil))))
        (dss_cons (ds_fld (dv 3) (de_call (ok__row_text T) (hr.mono (by decide)) (by rfl) T.mg__row_text T.kp__row_text T.bd__row_text pass0 (da_cons (dv 0) (da_cons (dv 4) (da_cons (dv 5) da_nil)))))
        (dss_one (ds_ret (dv 3)))))))), fun ds M Q hl h => ?_⟩
    obtain ⟨k, ns, p, rfl, g, hp, q⟩ := h
    have hc := T.cl_Ground
    have hf := T.na_Ground_letters
    have h1 := hp.l1
    have h2 := hp.l2
    have hl := g.len
    have e0 : atI (dS (lettersOf k ns)) 0 = some (.str (sg (lettersOf k ns) 0)) := by
      rw [atI_0, List.getElem?_map, sg_at (by omega)]; rfl
    have hs26 := (g.lets _ (sg_mem (n := 0) (by omega : 0 < (lettersOf k ns).length))).l26
    walk_at "start"
    unfold grD
    walk_at "goS"
    · have : ("( " : Str).length = 2 := by decide +kernel
      omega
    walk_at "goS"
    · have : ("( " : Str).length = 2 := by decide +kernel
      have : (" )" : Str).length = 2 := by decide +kernel
      rw [tl_len, tl_app, List.length_append, ← tl_len, ← tl_len]
      omega
    walk_at "goS"
    intro r hr0
    rw [first_text (by omega)]
    have hp0 : PathOk (lettersOf k ns).length ([], [0]) := path0 (by omega)
    refine ⟨r, k, ns, ([], [0]), rfl, g, hp0, mupd_same, fun x0 hx0 => ⟨rfl, ?_⟩⟩
    rw [mupd_mupd]
    walk_at "goS"
    refine ⟨p, rfl, hp.ne, by omega, by omega, fun x hx => ?_⟩
    have hxo := hp.isl hx
    walk_at "goS"
    refine ⟨k, ns, x.1, rfl, g, hxo.lt1, by have := hxo.l1; omega, ?_⟩
    walk_at "goS"
    refine go_ksetF mupd_same T.cl_Row T.na_Row_beginning (Nat.le_of_ble_eq_true rfl) rfl ?_
    walk_at "goS"
    refine ⟨k, ns, x.2, rfl, g, hxo.lt2, by have := hxo.l2; omega, ?_⟩
    walk_at "goS"
    refine go_ksetF mupd_same T.cl_Row T.na_Row_period (Nat.le_of_ble_eq_true rfl) rfl ?_
    walk_at "goS"
    refine ⟨k, ns, x, rfl, g, hxo, ?_⟩
    walk_at "goS"
    refine go_ksetF mupd_same T.cl_Row T.na_Row_text (Nat.le_of_ble_eq_true rfl) rfl ?_
    walk_at "goS"
    rw [mupd_mupd, mupd_mupd, mupd_mupd]
    exact DL.Fin.ins mupd_same hr0 (sub_self_upd hr0) (q x hx))) only [↓hid_eq]
theorem ok_Row_of (T : TX w K mg a) : FnOk P w K mg base CX0 12 a.f_Row_of a.fd_Row_of ["beginning", "period"] (lift K 2 (sp_Row_of a)) := by
  refine hid_of ?_; simp (discharger := (with_unfolding_all
    refine okD (k := 11) T.fn_Row_of sc_Row_of rfl fun cdv A outer s H E hr => ⟨_, _, (dss_cons (ds_if (dt_cmp (op_neD hr.units) s2_ne (de_fld (de_fld (dv 0))) (de_fld (de_fld (dv 1))) (nomark _)) (dss_one ds_never) dss_nil)
        (dss_cons (ds_if (dt_not (dt_tru (de_fld (dv 1)))) (dss_one ds_never) dss_nil)
        (dss_one (ds_ret (de_call (ok__row T) (hr.mono (by decide)) (by rfl) T.mg__row T.kp__row T.bd__row pass0 (da_cons (de_fld (dv 0)) (da_cons (de_callTy call_list_of sl_list (by rfl) T.b_list (by decide +kernel) (da_cons (de_fld (dv 0)) da_nil)) (da_cons (de_callTy call_list_of sl_list (by rfl) T.b_list (by decide +kernel) (da_cons (de_fld (dv 1)) da_nil)) da_nil)))))))), fun ds M Q hl h => ?_⟩
    obtain ⟨k, ns, p, rfl, g, hp, q⟩ := h
    have hc := T.cl_Ground
    have hf := T.na_Ground_text
    have hc2 := T.cl_Word
    have hf2 := T.na_Word_ground
    have hf3 := T.na_Word_letters
    walk_at "start"
    unfold wdD grD
    walk_at "goS"
    refine go_neS (gtext_ok g) (gtext_ok g) ?_
    refine go_ktest ?_
    refine go_iteF (by simp) ?_
    walk_at "goS"
    refine go_iteF (by have := hp.ne; cases e : p.2 with | nil => exact absurd e this | cons x r => rfl) ?_
    walk_at "goS"
    refine ⟨k, ns, p, rfl, g, hp, fun x hx => ?_⟩
    exact Fin.of (q x hx))) only [↓hid_eq]
theorem ok_Row_letter (T : TX w K mg a) : FnOk P w K mg base CX0 1 a.f_Row_letter a.fd_Row_letter ["self", "place"] (lift K 2 (sp_Row_letter a)) := by
  refine hid_of ?_; simp (discharger := (with_unfolding_all
    refine okD (k := 0) T.fn_Row_letter sc_Row_letter rfl fun cdv A outer s H E hr => ⟨_, _, (dss_cons (ds_set (j := 2) sc_Row_letter.nd rfl (by first | exact .inl rfl | exact .inr rfl) (de_callB call_lenA sl_len (by rfl) T.b_len (by decide +kernel) (da_cons (de_fld (de_fld (dv 0))) da_nil)))
        (dss_cons (ds_if (dt_cmp op_lt s2_lt (dv 1) (dv 2) (nomark _)) (dss_one (ds_ret (de_ix (hu_of hr) (de_fld (de_fld (dv 0))) (dv 1) (fun _ _ => rfl)))) dss_nil)
        (dss_one (ds_ret (de_ix (hu_of hr) (de_fld (de_fld (dv 0))) (de_mod (de_sub (dv 1) (dv 2)) (de_callB call_lenA sl_len (by rfl) T.b_len (by decide +kernel) (da_cons (de_fld (de_fld (dv 0))) da_nil))) (fun _ _ => rfl)))))), fun ds M Q hl h => ?_⟩
    obtain ⟨k, ns, p, n, rfl, hp, hn, q⟩ := h
    have hc2 := T.cl_Word
    have hf3 := T.na_Word_letters
    have hc := T.cl_Row
    have hf := T.na_Row_beginning
    have hf2 := T.na_Row_period
    have hne := List.length_pos_iff.mpr hp.ne
    walk_at "start"
    unfold rwD wdD
    walk_at "goS"
    refine go_ite (fun e => ?_) (fun e => ?_)
    · have e : n < p.1.length := by simpa using e
      have ez : atI (dN p.1) (n : Int) = some (.int (seqAt p n : Nat)) := by
        rw [atI_c, List.getElem?_map, List.getElem?_eq_getElem e, seq_hd e]; rfl
      walk_at "goS"
      exact Fin.of q
    · have e : p.1.length ≤ n := by simpa using e
      have em : ((n : Int) - ((dN p.1).length : Int)) % ((dN p.2).length : Int) = (((n - p.1.length) % p.2.length : Nat) : Int) := by
        rw [length_dN, length_dN, ← Int.ofNat_sub e]
        exact (Int.natCast_emod _ _).symm
      have hm : (n - p.1.length) % p.2.length < p.2.length := Nat.mod_lt _ hne
      have ez : atI (dN p.2) (((n - p.1.length) % p.2.length : Nat) : Int) = some (.int (seqAt p n : Nat)) := by
        rw [atI_c, List.getElem?_map, List.getElem?_eq_getElem hm]
        have : seqAt p n = p.2[(n - p.1.length) % p.2.length] := by
          unfold seqAt cyc
          rw [if_neg (by omega), List.getD_eq_getElem?_getD, List.getElem?_eq_getElem hm]
          rfl
        rw [this]; rfl
      walk_at "goS"
      · rw [em]; exact ez
      exact Fin.of q)) only [↓hid_eq]
theorem ok_Row_first (T : TX w K mg a) : FnOk P w K mg base CX0 9 a.f_Row_first a.fd_Row_first ["self", "count"] (lift K 2 (sp_Row_first a)) := by
  refine hid_of ?_; simp (discharger := (with_unfolding_all
    refine okD (k := 8) T.fn_Row_first sc_Row_first rfl fun cdv A outer s H E hr => ⟨_, _, (dss_one (ds_ret (de_call (ok__word T) (hr.mono (by decide)) (by rfl) T.mg__word T.kp__word T.bd__word pass0 (da_cons (de_fld (dv 0)) (da_cons (de_lc (own := [("place", 2)]) rfl sc_Row_first.nd (di_range1 (by rfl) T.b_range (da_cons (dv 1) da_nil)) (blkOk_by (by rfl)) (fun _ _ _ _ _ => (dg_name (j := 2) sc_Row_first.nd rfl (by first | exact .inl rfl | exact .inr rfl))) (fun _ _ _ _ _ => dts_nil) (fun _ _ _ _ _ => (de_meth (dv 0) T.cl_Row T.me_Row_letter (ok_Row_letter T) (hr.mono (by decide)) T.bd_Row_letter pass0 (da_cons (dv 2) da_nil))) om_name) da_nil))))), fun ds M Q hl h => ?_⟩
    obtain ⟨k, ns, p, n, rfl, g, hp, hn, q⟩ := h
    have hc := T.cl_Row
    have hf := T.na_Row_ground
    walk_at "start"
    have hg : (D.obj a.C_Row [("ground", grD a k ns), ("beginning", wdD a k ns p.1), ("period", wdD a k ns p.2), ("text", .str (rtext (lettersOf k ns) p))]) = rwD a k ns p := rfl
    unfold rwD
    walk_at "goS"
    rw [Int.toNat_natCast]
    unfold rng
    refine go_lcX (F := fun i => .int (seqAt p i : Nat)) (fun i KY KN hi hY => ?_) ?_
    · have hi := List.mem_range.mp hi
      walk_at "goS"
      refine ⟨k, ns, p, i, by rw [hg, Int.zero_add], hp, by omega, ?_⟩
      exact hY
    walk_at "goS"
    refine ⟨k, ns, pref p n, ?_, g, ?_, ?_, ?_⟩
    · rw [show dN (pref p n) = (List.range n).map fun i => D.int (seqAt p i : Nat) from List.map_map ..]
    · intro x hx
      obtain ⟨i, _, rfl⟩ := List.mem_map.mp hx
      exact seq_lt hp i
    · unfold pref; simp; omega
    exact Fin.of q)) only [↓hid_eq]
theorem okg_Row_upto (T : TX w K mg a) : GFn P w K mg base 2 a.f_Row_upto a.fd_Row_upto ["self", "count"] (liftG K 2 (sp_Row_upto a)) := by
  refine hid_of ?_; simp (discharger := (with_unfolding_all
    obtain ⟨oc, od, kV, doc, pm, an, cdv, ct, osl, efd, lk, hcd⟩ := T.fn_Row_upto.ex
    rw [efd] at lk ⊢
    refine okG (k := 1) lk hcd sc_Row_upto rfl (fun A s x => rfl) fun A outer s H E pn hr => ⟨_, _, _, _, _, _, (di_range1 (by rfl) T.b_range (da_cons (dv 1) da_nil)), (dg_name (j := 2) sc_Row_upto.nd rfl (by first | exact .inl rfl | exact .inr rfl)), (de_meth (dv 0) T.cl_Row T.me_Row_letter (ok_Row_letter T) (hr.mono (by decide)) T.bd_Row_letter pass0 (da_cons (dv 2) da_nil)), fun ds M Q hl h => ?_⟩
    obtain ⟨k, ns, p, n, rfl, hp, hn, q⟩ := h
    walk_at "start"
    refine go_genFor ?_
    walk_at "goS"
    rw [Int.toNat_natCast]
    refine go_genI (fun i acc G' M' => ∃ x : Option D, G' = [some (rwD a k ns p), some (.int (n : Int)), x] ∧ M' = M ∧ acc = dN (pref p i)) ⟨_, rfl, rfl, rfl⟩ (fun i d acc G' M' Kk hd hI hY => ?_) (fun acc G' M' hI => ?_)
    · obtain ⟨x, rfl, rfl, rfl⟩ := hI
      obtain ⟨hi, rfl⟩ := rng_get hd
      walk_at "goS"
      refine ⟨k, ns, p, i, by rw [Int.zero_add], hp, by omega, ?_⟩
      refine hY _ _ _ ⟨_, rfl, rfl, ?_⟩
      unfold pref
      rw [List.range_succ, List.map_append, dN_snoc']
    · obtain ⟨x, rfl, rfl, rfl⟩ := hI
      rw [length_rng]
      exact q)) only [↓hid_eq]
theorem ok_Row___eq__ (T : TX w K mg a) : FnOk P w K mg base CX0 1 a.f_Row___eq__ a.fd_Row___eq__ ["self", "other"] (lift K 2 (sp_Row___eq__ a)) := by
  refine hid_of ?_; simp (discharger := (with_unfolding_all
    refine okD (k := 0) T.fn_Row___eq__ sc_Row___eq__ rfl fun cdv A outer s H E hr => ⟨_, _, (dss_one (ds_ret (de_and (de_callB call_isi sl_isiW (by rfl) T.b_isinstance (by decide +kernel) (da_cons (dv 1) (da_cons (de_globC (by rfl) T.mg_Row) da_nil))) (de_and (de_cmp (op_eqD hr.units) s2_eq (de_fld (de_fld (dv 0))) (de_fld (de_fld (dv 1))) (nomark _)) (de_one (de_cmp (op_eqD hr.units) s2_eq (de_fld (dv 0)) (de_fld (dv 1)) (nomark _))))))), fun ds M Q hl h => ?_⟩
    obtain ⟨k, ns, p, e, rfl, g, hp, h⟩ := h
    have hc := T.cl_Ground
    have hf := T.na_Ground_text
    have hc2 := T.cl_Row
    have hf2 := T.na_Row_ground
    have hf3 := T.na_Row_text
    rcases h with ⟨k', ns', p', rfl, g', hp', q⟩ | ⟨⟨fs, hfs⟩, q⟩ | ⟨⟨t, ht⟩, q⟩
    · unfold rwD grD at *
      walk_at "start"
      walk_at "goS"
      refine go_isiS T.oc_Row ?_
      walk_at "goS"
      refine go_eqS (gtext_ok g) (gtext_ok g') ?_
      walk_at "goS"
      refine go_ite (fun e => ?_) (fun e => ?_)
      · walk_at "goS"
        refine go_eqS (rtext_ok g hp) (rtext_ok g' hp') ?_
        rw [e, Bool.true_and] at q
        exact Fin.of q
      · rw [e, Bool.false_and] at q
        exact Fin.of q
    · rcases hfs with rfl | rfl
      · walk_at "start"
        walk_at "goS"
        refine go_isiX T.oc_Ground T.kx_Ground_Row ?_
        walk_at "goS"
        exact Fin.of q
      · walk_at "start"
        walk_at "goS"
        refine go_isiX T.oc_Word T.kx_Word_Row ?_
        walk_at "goS"
        exact Fin.of q
    · walk_at "start"
      walk_at "goS"
      refine go_isiN ht T.ci_Row ?_
      walk_at "goS"
      exact Fin.of q)) only [↓hid_eq]
theorem ok_Row___repr__ (T : TX w K mg a) : FnOk P w K mg base CX0 1 a.f_Row___repr__ a.fd_Row___repr__ ["self"] (lift K 1 (sp_Row___repr__ a)) := by
  refine hid_of ?_; simp (discharger := (with_unfolding_all
    refine okD (k := 0) T.fn_Row___repr__ sc_Row___repr__ rfl fun cdv A outer s H E hr => ⟨_, _, (dss_one (ds_ret (de_joined (DJ.cons de_str (DJ.cons (de_fmt (de_fld (dv 0))) (DJ.cons de_str DJ.nil)))))), fun ds M Q hl h => ?_⟩
    obtain ⟨k, ns, p, rfl, g, hp, q⟩ := h
    have hc2 := T.cl_Row
    have hf3 := T.na_Row_text
    have hz := rtext_len g hp
    walk_at "start"
    unfold rwD
    walk_at "goS"
    · decide +kernel
    rw [app_nil]
    have l4 : ("Row(" : Str).length = 4 := by decide +kernel
    have l1 : (")" : Str).length = 1 := by decide +kernel
    walk_at "goS"
    · rw [tl_len, tl_app, List.length_append, ← tl_len, ← tl_len]; omega
    walk_at "goS"
    · rw [tl_len, tl_app, tl_app, List.length_append, List.length_append, ← tl_len, ← tl_len, ← tl_len]; omega
    walk_at "goS"
    exact Fin.of q)) only [↓hid_eq]
end
end L29

set_option Elab.async false
set_option linter.all false
set_option maxRecDepth 100000
set_option maxHeartbeats 4000000
set_option synthInstance.maxHeartbeats 400000
set_option synthInstance.maxSize 2000
namespace L29
open PySem PySem.Spec PyProof.Rows L2 DL
def sp__law_kept : aSp := fun ds M Q => ds = [] ∧ Q (.list (dS barred)) M
def sp__law_name : aSp := fun ds M Q => ∃ b, ds = [.ref b] ∧ Bag M b ∧ ∀ s c, NameOk s → GoodBag c → Q (.str s) (mupd M b c)
def sp__law_fresh : aSp := fun ds M Q => ∃ b n tk, ds = [.ref b, .int (n : Nat), .list (dS tk)] ∧ n ≤ 6 ∧ tk.length ≤ 6 ∧ tk.Nodup ∧ Bag M b ∧ ∀ ys c, ys.length = n → (tk ++ ys).Nodup → (∀ y ∈ ys, NameOk y) → GoodBag c → Q (.list (dS ys)) (mupd M b c)
def sp__law_written : aSp := fun ds M Q => ∃ k ns, ds = [.str k, .list (dS ns)] ∧ GoodG k ns ∧ Q (.list (dS (lettersOf k ns))) M
def sp__law_wide : aSp := fun ds M Q => ∃ b, ds = [.ref b] ∧ Bag M b ∧ ∀ k ns c, GoodG k ns → GoodBag c → Q (.tup [.str k, .list (dS ns), .list (dS (lettersOf k ns)), .str (gtext k ns)]) (mupd M b c)
theorem nodup_lt : ∀ (n : Nat) (l : List Nat), l.Nodup → (∀ x ∈ l, x < n) → l.length ≤ n
  | 0, l, _, h => by
    cases l with
    | nil => simp
    | cons a r => exact absurd (h a (by simp)) (by omega)
  | n + 1, l, hn, h => by
    have h1 : (l.filter fun x => decide (x ≠ n)).length ≤ n := nodup_lt n _ (hn.filter _) fun x hx => by
      simp at hx
      have := h x hx.1
      omega
    have h2 : l.length ≤ (l.filter fun x => decide (x ≠ n)).length + 1 := by
      clear h1 h
      induction l with
      | nil => simp
      | cons a r ih =>
        have hr := (List.nodup_cons.mp hn).2
        by_cases q : a = n
        · subst q
          have e : r.filter (fun x => decide (x ≠ a)) = r := List.filter_eq_self.mpr fun x hx => by
            simp
            intro z
            subst z
            exact (List.nodup_cons.mp hn).1 hx
          rw [List.filter_cons_of_neg (by simp), e]
          simp
        · rw [List.filter_cons_of_pos (by simp [q]), List.length_cons, List.length_cons]
          have := ih hr
          omega
    omega
theorem nodup_sub {t : Type} [DecidableEq t] {l S : List t} (hn : l.Nodup) (hs : ∀ x ∈ l, x ∈ S) : l.length ≤ S.length := by
  have h1 : (l.map S.idxOf).Nodup := by
    unfold List.Nodup at *
    rw [List.pairwise_map]
    refine hn.imp_of_mem fun {a b} ha hb hne e => hne ?_
    have qa := List.getElem_idxOf (List.idxOf_lt_length_of_mem (hs a ha))
    have qb := List.getElem_idxOf (List.idxOf_lt_length_of_mem (hs b hb))
    rw [← qa, ← qb]
    congr 1
  have h2 := nodup_lt S.length _ h1 (fun x hx => by
    obtain ⟨q, hq, rfl⟩ := List.mem_map.mp hx
    exact List.idxOf_lt_length_of_mem (hs q hq))
  rwa [List.length_map] at h2
theorem dS_app (x y : List Str) : dS (x ++ y) = dS x ++ dS y := List.map_append
def nameB (s : Str) : Bool := decide (s.length ≤ 8) && !barred.contains s && (match tl s with | c :: _ => decide (97 ≤ c) && decide (c ≤ 122) | [] => false) && (tl s).all fun x => (decide (97 ≤ x) && decide (x ≤ 122)) || (decide (48 ≤ x) && decide (x ≤ 57))
theorem nameB_ok {s : Str} (h : nameB s = true) : NameOk s := by
  unfold nameB at h
  simp only [Bool.and_eq_true, Bool.not_eq_true', decide_eq_true_eq, List.all_eq_true, Bool.or_eq_true] at h
  obtain ⟨⟨⟨h1, h2⟩, h3⟩, h4⟩ := h
  refine ⟨h1, fun z => ?_, ?_, fun x hx => h4 x hx⟩
  · rw [List.contains_iff_mem.mpr z] at h2; cases h2
  · cases e : tl s with
    | nil => rw [e] at h3; cases h3
    | cons c r =>
      rw [e] at h3
      simp only [Bool.and_eq_true, decide_eq_true_eq] at h3
      exact ⟨c, r, rfl, h3.1, h3.2⟩
def one (x : Nat) : Str := ⟨#[x]⟩
theorem tl_one (x : Nat) : tl (one x) = [x] := rfl
theorem joinL_nil : ∀ ps : List (List Nat), TL.joinL [] ps = ps.flatten
  | [] => rfl
  | [p] => by simp [TL.joinL]
  | p :: q :: r => by
    show p ++ ([] ++ TL.joinL [] (q :: r)) = _
    rw [joinL_nil (q :: r)]
    simp
theorem tl_empty : tl ("" : Str) = [] := by decide +kernel
theorem tl_ones (cs : List Nat) : tl (Txt.join "" (cs.map one)) = cs := by
  rw [tl_joinX, tl_empty, joinL_nil, List.map_map]
  induction cs with
  | nil => rfl
  | cons c r ih => rw [List.map_cons, List.flatten_cons, ih]; rfl
theorem fixed_ok : ∀ s ∈ [("done" : Str), "self", "s", "s10", "s2", "kind", "start", "arrow", "a", "aaa", "b7", "yes1", "sooner"], NameOk s := fun s hs => by
  have h : ([("done" : Str), "self", "s", "s10", "s2", "kind", "start", "arrow", "a", "aaa", "b7", "yes1", "sooner"].all nameB) = true := by decide +kernel
  exact nameB_ok (List.all_eq_true.mp h s hs)
theorem barred_cut : ∀ s ∈ barred, NameOk (cutS s none (some 7) ++ "0") := fun s hs => by
  have h : (barred.all fun s => nameB (cutS s none (some 7) ++ "0")) = true := by decide +kernel
  exact nameB_ok (List.all_eq_true.mp h s hs)
theorem barred_len : ∀ s ∈ barred, s.length ≤ 8 := fun s hs => by
  have h : (barred.all fun s => decide (s.length ≤ 8)) = true := by decide +kernel
  exact of_decide_eq_true (List.all_eq_true.mp h s hs)
theorem made_ok {x : Nat} {cs : List Nat} (hx : 97 ≤ x ∧ x ≤ 122) (hc : ∀ y ∈ cs, NameSign y) (hl : cs.length ≤ 7) (hb : one x ++ Txt.join "" (cs.map one) ∉ barred) : NameOk (one x ++ Txt.join "" (cs.map one)) := by
  have e : tl (one x ++ Txt.join "" (cs.map one)) = x :: cs := by rw [tl_app, tl_ones, tl_one]; rfl
  refine ⟨by rw [tl_len, e]; simp; omega, hb, ⟨x, cs, e, hx⟩, fun y hy => ?_⟩
  rw [e] at hy
  rcases List.mem_cons.mp hy with rfl | hy
  · exact .inl hx
  · exact hc y hy
theorem tails_at {i : Int} (h0 : 0 ≤ i) (h1 : i < 6) : ∃ t : Nat, atI [D.int 0, D.int 0, D.int 0, D.int 1, D.int 2, D.int 7] i = some (.int (t : Int)) ∧ t ≤ 7 := by
  have : i = 0 ∨ i = 1 ∨ i = 2 ∨ i = 3 ∨ i = 4 ∨ i = 5 := by omega
  rcases this with rfl | rfl | rfl | rfl | rfl | rfl
  · exact ⟨0, by rw [atI_0]; rfl, by decide⟩
  · exact ⟨0, by rw [atI_1]; rfl, by decide⟩
  · exact ⟨0, by rw [atI_2]; rfl, by decide⟩
  · exact ⟨1, by rw [atI_3]; rfl, by decide⟩
  · exact ⟨2, by rw [atI_4]; rfl, by decide⟩
  · exact ⟨7, by rw [atI_5]; rfl, by decide⟩
theorem mupd_comm {M : Mp} {a b : Addr} {c e : MC} (h : a ≠ b) : mupd (mupd M a c) b e = mupd (mupd M b e) a c := by
  funext x
  unfold mupd
  by_cases h1 : x = b
  · subst h1
    rw [if_pos rfl, if_neg (Ne.symm h), if_pos rfl]
  · rw [if_neg h1]
    by_cases h2 : x = a
    · rw [if_pos h2, if_pos h2]
    · rw [if_neg h2, if_neg h2, if_neg h1]
theorem evName_low {s : List Str} (h : ∀ n ∈ s, NameOk n) : ∀ x ∈ tl (evName s), x < 1000 := fun x hx => by
  unfold evName at hx
  split at hx
  · rw [tl_minus] at hx; simp at hx; omega
  · rw [tl_joinX] at hx
    rcases joinL_mem hx with z | ⟨p, hp, z⟩
    · rw [tl_plus] at z; simp at z; omega
    · obtain ⟨n, hn, rfl⟩ := List.mem_map.mp hp
      exact name_low (h n hn) x z
/-! a fresh name -/
def dig (m : Nat) : Str := Str.ofString (toString ((m : Nat) : Int))
def cand (s : Str) (i : Nat) : Str := cutS s none (some 6) ++ dig (10 + i)
theorem tl_cut (z : Str) (n : Nat) : tl (cutS z none (some (n : Int))) = (tl z).take n := by
  show ((z.cps.toList.drop (HT.sIx z.length 0 none)).take (HT.sIx z.length z.length (some (n : Int)) - HT.sIx z.length 0 none)) = z.cps.toList.take n
  rw [HT.sIx_none, HT.sIx_nat, List.drop_zero, Nat.sub_zero]
  have hl : z.length = z.cps.toList.length := by show z.cps.size = _; simp
  by_cases h : n ≤ z.length
  · rw [Nat.min_eq_left h]
  · rw [Nat.min_eq_right (by omega), List.take_of_length_le (by omega), List.take_of_length_le (by omega)]
theorem tl_dig (m : Nat) : tl (dig m) = TL.numL m := TL.tl_num m
theorem tl_cand (s : Str) (i : Nat) : tl (cand s i) = (tl s).take 6 ++ TL.numL (10 + i) := by
  unfold cand
  rw [tl_app, tl_dig, show (6 : Int) = ((6 : Nat) : Int) from rfl, tl_cut]
theorem cand_inj {s : Str} {i j : Nat} (h : cand s i = cand s j) : i = j := by
  have := congrArg tl h
  rw [tl_cand, tl_cand] at this
  have := TL.numL_inj (List.append_cancel_left this)
  omega
theorem barred_sg : ∀ s ∈ barred, ∀ x ∈ tl s, 97 ≤ x := fun s hs x hx => by
  have h : (barred.all fun s => (tl s).all fun x => decide (97 ≤ x)) = true := by decide +kernel
  exact of_decide_eq_true (List.all_eq_true.mp (List.all_eq_true.mp h s hs) x hx)
theorem cand_ok {s : Str} (h : NameOk s) {i : Nat} (hi : i < 60) : NameOk (cand s i) := by
  have hl := TL.numL_len (n := 10 + i) (k := 2) (by decide) (by omega)
  have hd := TL.numL_digits (10 + i)
  have hne := TL.numL_ne (10 + i)
  refine ⟨?_, fun z => ?_, ?_, fun x hx => ?_⟩
  · rw [tl_len, tl_cand, List.length_append, List.length_take]; omega
  · obtain ⟨x, hx⟩ := List.exists_mem_of_ne_nil _ hne
    have h1 := barred_sg _ z x (by rw [tl_cand]; exact List.mem_append_right _ hx)
    have h2 := hd x hx
    omega
  · obtain ⟨c, r, e, hc⟩ := h.hd
    refine ⟨c, r.take 5 ++ TL.numL (10 + i), ?_, hc⟩
    rw [tl_cand, e]; rfl
  · rw [tl_cand] at hx
    rcases List.mem_append.mp hx with hx | hx
    · exact h.sg x (List.mem_of_mem_take hx)
    · have := hd x hx
      exact .inr (by omega)
theorem cand_free {s : Str} {told : List Str} (hl : told.length < 60) : ∃ z ∈ (List.range 60).map (cand s), z ∉ told := by
  refine Classical.byContradiction fun hno => ?_
  have hs : ∀ z ∈ (List.range 60).map (cand s), z ∈ told := fun z hz => Classical.byContradiction fun h => hno ⟨z, hz, h⟩
  have hnd : ((List.range 60).map (cand s)).Nodup := by
    rw [List.Nodup, List.pairwise_map]
    exact List.nodup_range.imp fun {a b} hab e => hab (cand_inj e)
  have := nodup_sub hnd hs
  rw [List.length_map, List.length_range] at this
  omega
theorem pick_free {s : Str} (h : NameOk s) {told : List Str} (hl : told.length < 60) : ∃ z r, (s :: (List.range 60).map (cand s)).filter (fun z => !decide (z ∈ told)) = z :: r ∧ z ∉ told ∧ NameOk z := by
  cases e : (s :: (List.range 60).map (cand s)).filter (fun z => !decide (z ∈ told)) with
  | nil =>
    obtain ⟨z, hz, hn⟩ := cand_free (s := s) hl
    have := List.filter_eq_nil_iff.mp e z (List.mem_cons_of_mem _ hz)
    simp [hn] at this
  | cons z r =>
    have hm : z ∈ (s :: (List.range 60).map (cand s)).filter (fun z => !decide (z ∈ told)) := by rw [e]; simp
    obtain ⟨h1, h2⟩ := List.mem_filter.mp hm
    refine ⟨z, r, rfl, by simpa using h2, ?_⟩
    rcases List.mem_cons.mp h1 with rfl | h1
    · exact h
    · obtain ⟨i, hi, rfl⟩ := List.mem_map.mp h1
      exact cand_ok h (List.mem_range.mp hi)
section
variable {P : Program} {w : World} {K : PySem.W.Frag} {mg : Str → Option Value} {base : Heap} {a : Ad}
theorem ok__law_kept (T : TX w K mg a) : FnOk P w K mg base CX0 1 a.f__law_kept a.fd__law_kept [] (lift K 0 sp__law_kept) := by
  refine hid_of ?_; simp (discharger := (with_unfolding_all
    refine okD (k := 0) T.fn__law_kept sc__law_kept rfl fun cdv A outer s H E hr => ⟨_, _, (dss_one (ds_ret (de_lst (da_cons de_str (da_cons de_str (da_cons de_str (da_cons de_str (da_cons de_str (da_cons de_str (da_cons de_str (da_cons de_str (da_cons de_str (da_cons de_str (da_cons de_str (da_cons de_str (da_cons de_str (da_cons de_str da_nil))))))))))))))))), fun ds M Q hl h => ?_⟩
    obtain ⟨rfl, q⟩ := h
    walk_at "start"
    walk_at "goS"
    exact Fin.of q)) only [↓hid_eq]
theorem ok__law_name (T : TX w K mg a) : FnOk P w K mg base CX0 3 a.f__law_name a.fd__law_name ["bag"] (lift K 1 sp__law_name) := by
  refine hid_of ?_; simp (discharger := (with_unfolding_all
    refine okD (k := 2) T.fn__law_name sc__law_name rfl fun cdv A outer s H E hr => ⟨_, _, (dss_cons (ds_set (j := 1) sc__law_name.nd rfl (by first | exact .inl rfl | exact .inr rfl) de_str)
        (dss_cons (ds_set (j := 2) sc__law_name.nd rfl (by first | exact .inl rfl | exact .inr rfl) (de_call (ok__law_draw T) (hr.mono (by decide)) (by rfl) T.mg__law_draw T.kp__law_draw T.bd__law_draw pass0 (da_cons (dv 0) (da_cons de_int da_nil))))
        (dss_cons (ds_if (dt_cmp (op_eqD hr.units) s2_eq (dv 2) de_int (nomark _)) (dss_one (ds_ret (de_call (ok__law_of T) (hr.mono (by decide)) (by rfl) T.mg__law_of T.kp__law_of T.bd__law_of pass0 (da_cons (dv 0) (da_cons (de_lst (da_cons de_str (da_cons de_str (da_cons de_str (da_cons de_str (da_cons de_str (da_cons de_str (da_cons de_str (da_cons de_str (da_cons de_str (da_cons de_str (da_cons de_str (da_cons de_str (da_cons de_str da_nil)))))))))))))) da_nil))))) dss_nil)
        (dss_cons (ds_set (j := 3) sc__law_name.nd rfl (by first | exact .inl rfl | exact .inr rfl) (de_ix (hu_of hr) (de_lst (da_cons de_int (da_cons de_int (da_cons de_int (da_cons de_int (da_cons de_int (da_cons de_int da_nil))))))) (dv 2) (fun _ _ => rfl)))
        (dss_cons (ds_set (j := 4) sc__law_name.nd rfl (by first | exact .inl rfl | exact .inr rfl) (de_add (de_call (ok__law_ofS T) (hr.mono (by decide)) (by rfl) T.mg__law_of T.kp__law_of T.bd__law_of pass0 (da_cons (dv 0) (da_cons (dv 1) da_nil))) (de_bm PySem.F.plainAttrs_str PySem.F.slot_str_join PySem.F.type_str_join mt_join sm_join (.inr (.inr (.inl rfl))) de_str (da_cons (de_lc (own := [("k", 5)]) rfl sc__law_name.nd (di_range1 (by rfl) T.b_range (da_cons (dv 3) da_nil)) (blkOk_by (by rfl)) (fun _ _ _ _ _ => (dg_name (j := 5) sc__law_name.nd rfl (by first | exact .inl rfl | exact .inr rfl))) (fun _ _ _ _ _ => dts_nil) (fun _ _ _ _ _ => (de_call (ok__law_ofS T) (hr.mono (by decide)) (by rfl) T.mg__law_of T.kp__law_of T.bd__law_of pass0 (da_cons (dv 0) (da_cons (de_add (dv 1) de_str) da_nil)))) om_name) da_nil))))
        (dss_one (ds_ret (de_ifExp (dt_cmp (op_inA (hu_of hr)) s2_in (dv 4) (de_call0 (ok__law_kept T) (hr.mono (by decide)) (by rfl) T.mg__law_kept T.kp__law_kept T.bd__law_kept pass0) (by rfl)) (de_add (de_slice (dv 4) do_none (do_some de_int)) de_str) (dv 4))))))))), fun ds M Q hl h => ?_⟩
    obtain ⟨b, rfl, ⟨c0, hb, hc0⟩, q⟩ := h
    walk_at "start"
    walk_at "goS"
    refine ⟨b, 6, rfl, by decide, by decide, ⟨c0, hb, hc0⟩, fun i c hi0 hi1 hc => ?_⟩
    walk_at "goS"
    refine go_ite (fun e => ?_) (fun e => ?_)
    · walk_at "goS"
      refine ⟨b, _, rfl, by simp, by simp, ⟨c, mupd_same, hc⟩, fun d c2 hd hc2 => ?_⟩
      obtain ⟨s, hs, rfl⟩ : ∃ s, s ∈ [("done" : Str), "self", "s", "s10", "s2", "kind", "start", "arrow", "a", "aaa", "b7", "yes1", "sooner"] ∧ d = .str s := by
        have : d ∈ dS [("done" : Str), "self", "s", "s10", "s2", "kind", "start", "arrow", "a", "aaa", "b7", "yes1", "sooner"] := hd
        obtain ⟨s, hs, rfl⟩ := List.mem_map.mp this
        exact ⟨s, hs, rfl⟩
      rw [mupd_mupd]
      exact Fin.of (q s c2 (fixed_ok s hs) hc2)
    · obtain ⟨t, ht, ht7⟩ := tails_at hi0 hi1
      walk_at "goS"
      refine ⟨b, _, rfl, by decide +kernel, by decide +kernel, ⟨c, mupd_same, hc⟩, fun x c2 hx hc2 => ?_⟩
      rw [mupd_mupd]
      have hx := (az_mem x).mp hx
      walk_at "goS"
      refine go_lcI (fun j acc M2 => ∃ c cs, M2 = mupd M b c ∧ GoodBag c ∧ acc = dS (cs.map one) ∧ cs.length = j ∧ ∀ y ∈ cs, NameSign y) ⟨c2, [], rfl, hc2, rfl, rfl, by simp⟩ (fun j d acc M2 KY KN hd hI hY hN => ?_) (fun acc M2 hI => ?_)
      · obtain ⟨c3, cs, rfl, hc3, rfl, hj, hcs⟩ := hI
        obtain ⟨hlt, rfl⟩ := rng_get hd
        walk_at "goS"
        · decide +kernel
        rw [show (("abcdefghijklmnopqrstuvwxyz" : Str) ++ ("0123456789" : Str)) = "abcdefghijklmnopqrstuvwxyz0123456789" from by decide +kernel]
        walk_at "goS"
        refine ⟨b, _, rfl, by decide +kernel, by decide +kernel, ⟨c3, mupd_same, hc3⟩, fun y c4 hy hc4 => ?_⟩
        rw [mupd_mupd]
        refine hY _ _ ⟨c4, cs ++ [y], rfl, hc4, by rw [List.map_append, dS_app]; rfl, by simp [hj], fun z hz => ?_⟩
        rcases List.mem_append.mp hz with hz | hz
        · exact hcs z hz
        · rcases List.mem_singleton.mp hz with rfl
          exact (azn_mem _).mp hy
      obtain ⟨c3, cs, rfl, hc3, rfl, hcl, hcs⟩ := hI
      rw [length_rng, Int.toNat_natCast] at hcl
      have l1 : (one x).length = 1 := rfl
      have l2 : (Txt.join "" (cs.map one)).length = cs.length := by rw [tl_len, tl_ones]
      walk_at "goS"
      refine ⟨by decide +kernel, cs.map one, rfl, by simp; omega, fun y hy => ?_, ?_⟩
      · obtain ⟨z, _, rfl⟩ := List.mem_map.mp hy
        exact (by decide : (1 : Nat) ≤ 1000)
      walk_at "goS"
      · show (one x).length + _ ≤ _
        omega
      walk_at "goS"
      refine ⟨rfl, ?_⟩
      refine go_inS rfl ?_
      refine go_ktest ?_
      refine go_ite (fun e => ?_) (fun e => ?_)
      · have e : one x ++ Txt.join "" (cs.map one) ∈ barred := of_decide_eq_true e
        have hbc := barred_cut _ e
        have hbl := barred_len _ e
        walk_at "goS"
        refine ⟨by show (one x ++ Txt.join "" (cs.map one)).length ≤ _; omega, ?_⟩
        walk_at "goS"
        · have h0 := cutS_length (one x ++ Txt.join "" (cs.map one)) none (some 7)
          have h1 : ("0" : Str).length = 1 := by decide +kernel
          show (cutS (one x ++ Txt.join "" (cs.map one)) none (some 7)).length + _ ≤ _
          omega
        exact Fin.of (q _ c3 hbc hc3)
      · have e : one x ++ Txt.join "" (cs.map one) ∉ barred := of_decide_eq_false e
        walk_at "goS"
        exact Fin.of (q _ c3 (made_ok hx hcs (by omega) e) hc3))) only [↓hid_eq]
theorem ok__law_fresh (T : TX w K mg a) : FnOk P w K mg base CX0 4 a.f__law_fresh a.fd__law_fresh ["bag", "times", "taken"] (lift K 3 sp__law_fresh) := by
  refine hid_of ?_; simp (discharger := (with_unfolding_all
    refine okD (k := 3) T.fn__law_fresh sc__law_fresh rfl fun cdv A outer s H E hr => ⟨_, _, (dss_cons (ds_set (j := 3) sc__law_fresh.nd rfl (by first | exact .inl rfl | exact .inr rfl) (de_callTy call_list_of sl_listM (by rfl) T.b_list (by decide +kernel) (da_cons (dv 2) da_nil)))
        (dss_cons (ds_for (di_range1 (by rfl) T.b_range (da_cons (dv 1) da_nil)) (dg_name (j := 4) sc__law_fresh.nd rfl (by first | exact .inl rfl | exact .inr rfl)) (dss_cons (ds_set (j := 5) sc__law_fresh.nd rfl (by first | exact .inl rfl | exact .inr rfl) (de_call (ok__law_name T) (hr.mono (by decide)) (by rfl) T.mg__law_name T.kp__law_name T.bd__law_name pass0 (da_cons (dv 0) da_nil)))
        (dss_one (ds_expr (de_bm PySem.F.plainAttrs_list PySem.F.slot_list_append PySem.F.type_list_append mt_append sm_append (.inl rfl) (dv 3) (da_cons (de_ix (hu_of hr) (de_lc (own := [("c", 7)]) rfl sc__law_fresh.nd (di_seq (de_add (de_lst (da_cons (dv 5) da_nil)) (de_lc (own := [("n", 6)]) rfl sc__law_fresh.nd (di_range2 (by rfl) T.b_range (da_cons de_int (da_cons de_int da_nil))) (blkOk_by (by rfl)) (fun _ _ _ _ _ => (dg_name (j := 6) sc__law_fresh.nd rfl (by first | exact .inl rfl | exact .inr rfl))) (fun _ _ _ _ _ => dts_nil) (fun _ _ _ _ _ => (de_add (de_slice (dv 5) do_none (do_some de_int)) (de_callTy call_str_int sl_strI (by rfl) T.b_str (by decide +kernel) (da_cons (dv 6) da_nil)))) om_name))) (blkOk_by (by rfl)) (fun _ _ _ _ _ => (dg_name (j := 7) sc__law_fresh.nd rfl (by first | exact .inl rfl | exact .inr rfl))) (fun _ _ _ _ _ => (dts_one (dt_cmp (op_notInA (hu_of hr)) s2_in (dv 7) (dv 3) (by rfl)))) (fun _ _ _ _ _ => (dv 7)) om_name) de_int (fun _ _ => rfl)) da_nil))))) PassesOwn.never)
        (dss_one (ds_ret (de_slice (dv 3) (do_some (de_callB call_lenA sl_len (by rfl) T.b_len (by decide +kernel) (da_cons (dv 2) da_nil))) do_none))))), fun ds M Q hl h => ?_⟩
    obtain ⟨b, n, tk, rfl, hn6, ht6, htn, ⟨c0, hb, hc0⟩, q⟩ := h
    walk_at "start"
    walk_at "go"
    intro pt hpt
    have hne : b ≠ pt := mne hb hpt
    walk_at "go"
    refine go_seqK (J := fun G' M' => ∃ x3 x4 x5 x6 : Option D, ∃ ys c, G' = [some (.ref b), some (.int (n : Nat)), some (.list (dS tk)), some (.ref pt), x3, x4, x5, x6] ∧ M' = mupd (mupd M b c) pt (.lst (dS (tk ++ ys))) ∧ GoodBag c ∧ ys.length = n ∧ (tk ++ ys).Nodup ∧ ∀ y ∈ ys, NameOk y) (fun nx hk => ?_) (fun G' M' hJ => ?_)
    · walk_at "go"
      rw [Int.toNat_natCast]
      refine go_forI (fun i G' M' => ∃ x3 x4 x5 x6 : Option D, ∃ ys c, G' = [some (.ref b), some (.int (n : Nat)), some (.list (dS tk)), some (.ref pt), x3, x4, x5, x6] ∧ M' = mupd (mupd M b c) pt (.lst (dS (tk ++ ys))) ∧ GoodBag c ∧ ys.length = i ∧ (tk ++ ys).Nodup ∧ ∀ y ∈ ys, NameOk y)
        ⟨_, _, _, _, [], c0, rfl, by rw [mupd_self hb, List.append_nil], hc0, rfl, by rw [List.append_nil]; exact htn, by simp⟩ (fun i d G' M' nx' hd hI hn => ?_) (fun G' M' hI => ?_)
      · obtain ⟨x3, x4, x5, x6, ys, c, rfl, rfl, hc, hyl, hnd, hys⟩ := hI
        obtain ⟨hlt, rfl⟩ := rng_get hd
        walk_at "goS"
        refine ⟨b, rfl, ⟨c, by rw [mupd_ne hne, mupd_same], hc⟩, fun s c2 hs hc2 => ?_⟩
        rw [mupd_comm (Ne.symm hne), mupd_mupd]
        have hs8 := hs.l8
        walk_at "goS"
        rw [show ((70 : Int) - 10).toNat = 60 from rfl]
        unfold rng
        refine go_lcX (F := fun j => .str (cand s j)) (fun j KY KN hj hY => ?_) ?_
        · have hj := List.mem_range.mp hj
          have hd2 := TL.numL_len (n := 10 + j) (k := 2) (by decide) (by omega)
          walk_at "goS"
          refine ⟨by omega, ?_⟩
          walk_at "goS"
          refine go_strI (by omega) (by omega) ?_
          have e : (toString (10 + (j : Int)) : Str) = dig (10 + j) := by unfold dig; rw [Int.natCast_add]; rfl
          rw [e]
          have hd3 : (dig (10 + j)).length ≤ 2 := by rw [tl_len, tl_dig]; exact hd2
          have h0 := cutS_length s none (some 6)
          refine go_addS (by omega) ?_
          exact hY
        walk_at "goS"
        · simp
        have el : [D.str s] ++ (List.range 60).map (fun j => D.str (cand s j)) = (s :: (List.range 60).map (cand s)).map D.str := by
          rw [List.map_cons, List.map_map]; rfl
        rw [el]
        obtain ⟨z, r, ef, hzn, hzo⟩ := pick_free hs (told := tk ++ ys) (by rw [List.length_append]; omega)
        walk_at "goS"
        refine ⟨by simp, ?_⟩
        refine go_lcXP (fun z => !decide (z ∈ tk ++ ys)) (F := D.str) (fun z KY KN hz hY hN => ?_) ?_
        · walk_at "goS"
          refine go_inS (itemsM_ref mupd_same) ?_
          refine go_ktest ?_
          refine go_ite (fun e => ?_) (fun e => ?_)
          · walk_at "goS"
            exact hY e
          · exact hN e
        rw [ef]
        have e0 : atI (List.map D.str (z :: r)) 0 = some (.str z) := by rw [atI_0]; rfl
        walk_at "goS"
        rw [mupd_mupd]
        refine hn _ _ ⟨_, _, _, _, ys ++ [z], c2, rfl, by rw [← List.append_assoc, dS_app (tk ++ ys)]; rfl, hc2, by simp [hyl], ?_, fun y hy => ?_⟩
        · rw [← List.append_assoc, List.nodup_append]
          refine ⟨hnd, by simp, fun u hu v hv e => ?_⟩
          rcases List.mem_singleton.mp hv with rfl
          exact hzn (e ▸ hu)
        · rcases List.mem_append.mp hy with hy | hy
          · exact hys y hy
          · rcases List.mem_singleton.mp hy with rfl
            exact hzo
      · rw [length_rng] at hI
        exact hk _ _ hI
    · obtain ⟨x3, x4, x5, x6, ys, c, rfl, rfl, hc, hyl, hnd, hys⟩ := hJ
      walk_at "goS"
      rw [show ((dS tk).length : Int) = ((tk.length : Nat) : Int) by rw [length_dS], cutD_drop, dS_app, List.drop_left' (length_dS tk)]
      refine DL.Fin.sub (M' := mupd M b c) (fun y d e => ?_) (q ys c hyl hnd hys hc)
      rw [mupd_ne]
      · exact e
      · intro z; subst z; rw [mupd_ne (Ne.symm hne), hpt] at e; cases e)) only [↓hid_eq]
theorem ok__law_written (T : TX w K mg a) : FnOk P w K mg base CX0 1 a.f__law_written a.fd__law_written ["kind", "names"] (lift K 2 sp__law_written) := by
  refine hid_of ?_; simp (discharger := (with_unfolding_all
    refine okD (k := 0) T.fn__law_written sc__law_written rfl fun cdv A outer s H E hr => ⟨_, _, (dss_cons (ds_if (dt_cmp (op_eqD hr.units) s2_eq (dv 0) de_str (nomark _)) (dss_one (ds_ret (de_callTy call_list_of sl_list (by rfl) T.b_list (by decide +kernel) (da_cons (dv 1) da_nil)))) dss_nil)
        (dss_cons (ds_set (j := 2) sc__law_written.nd rfl (by first | exact .inl rfl | exact .inr rfl) (de_lst (da_cons de_str da_nil)))
        (dss_cons (ds_for (di_seq (dv 1)) (dg_name (j := 3) sc__law_written.nd rfl (by first | exact .inl rfl | exact .inr rfl)) (dss_cons (ds_setLc (j := 4) (own := [("c", 5)]) rfl sc__law_written.nd rfl rfl (sw_true rfl rfl rfl (by decide +kernel)) (di_seq (dv 2)) (blkOk_by (by rfl)) (fun _ _ _ _ _ => (dg_name (j := 5) sc__law_written.nd rfl (by first | exact .inl rfl | exact .inr rfl))) (fun _ _ _ _ _ => dts_nil) (fun _ _ _ _ _ => (de_ifExp (dt_cmp (op_eqD hr.units) s2_eq (dv 5) de_str (nomark _)) (dv 3) (de_add (de_add (dv 5) de_str) (dv 3)))) om_name)
        (dss_one (ds_set (j := 2) sc__law_written.nd rfl (by first | exact .inl rfl | exact .inr rfl) (de_add (dv 2) (dv 4))))) PassesOwn.never)
        (dss_one (ds_ret (dv 2)))))), fun ds M Q hl h => ?_⟩
    obtain ⟨k, ns, rfl, g, q⟩ := h
    walk_at "start"
    walk_at "goS"
    refine go_eqS (strOk_of (kind_low g)) (by decide +kernel) ?_
    walk_at "goS"
    refine go_ite (fun e => ?_) (fun e => ?_)
    · have ek : k = "letters" := by simpa using e
      walk_at "goS"
      have e2 : lettersOf k ns = ns := by unfold lettersOf; rw [if_pos ek]
      rw [e2] at q
      exact Fin.of q
    · have ek : k ≠ "letters" := by simpa using e
      have h3 : ns.length ≤ 3 := by rcases g.kd with z | z; exact absurd z.1 ek; omega
      have e2 : lettersOf k ns = lawEv ns := by unfold lettersOf; rw [if_neg ek, lawEv_eq g.ok]
      walk_at "go"
      refine go_seqK (J := fun G' M' => ∃ x3 x4 x5 : Option D, G' = [some (.str k), some (.list (dS ns)), some (.list (dS (lawEv ns))), x3, x4, x5] ∧ M' = M) (fun nx hk => ?_) (fun G' M' hJ => ?_)
      · walk_at "go"
        refine go_forI (fun i G' M' => ∃ x3 x4 x5 : Option D, G' = [some (.str k), some (.list (dS ns)), some (.list (dS (lawEv (ns.take i)))), x3, x4, x5] ∧ M' = M) ⟨_, _, _, rfl, rfl⟩ (fun i d G' M' nx' hd hI hn => ?_) (fun G' M' hI => ?_)
        · obtain ⟨x3, x4, x5, rfl, rfl⟩ := hI
          rw [List.getElem?_map] at hd
          obtain ⟨s, hs, rfl⟩ := Option.map_eq_some_iff.mp hd
          have hso := g.ok s (List.mem_of_getElem? hs)
          have hs8 := hso.l8
          have hev : lawEv (ns.take (i + 1)) = lawEv (ns.take i) ++ (lawEv (ns.take i)).map (fun c : Str => if c = ("-" : Str) then s else c ++ "+" ++ s) := by
            have : ns.take (i + 1) = ns.take i ++ [s] := by rw [List.take_add_one, hs]; rfl
            unfold lawEv
            rw [this, List.foldl_append]
            rfl
          have hto : ∀ n ∈ ns.take i, NameOk n := fun n hn => g.ok n (List.mem_of_mem_take hn)
          have hle := lawEv_eq hto
          have hel : (lawEv (ns.take i)).length ≤ 8 := by
            rw [hle, List.length_map, evSets_len]
            exact Nat.le_trans (Nat.pow_le_pow_right (by decide) (by rw [List.length_take]; omega : (ns.take i).length ≤ 3)) (by decide)
          have hlo : ∀ c ∈ lawEv (ns.take i), c.length ≤ 26 ∧ ∀ x ∈ tl c, x < 1000 := fun c hc => by
            rw [hle] at hc
            obtain ⟨t, ht, rfl⟩ := List.mem_map.mp hc
            obtain ⟨m1, m2⟩ := evSets_mem ht
            rw [List.length_take] at m2
            exact ⟨(evName_let (fun n hn => hto n (m1 n hn)) (by omega)).l26, evName_low fun n hn => hto n (m1 n hn)⟩
          walk_at "goS"
          refine go_lcX (F := fun c => .str (if c = ("-" : Str) then s else c ++ "+" ++ s)) (fun c KY KN hc hY => ?_) ?_
          · obtain ⟨c26, clow⟩ := hlo c hc
            walk_at "goS"
            refine go_eqS (strOk_of clow) (by decide +kernel) ?_
            walk_at "goS"
            refine go_ite (fun e => ?_) (fun e => ?_)
            · have e : c = "-" := by simpa using e
              walk_at "goS"
              rw [if_pos e] at hY
              exact hY
            · have e : c ≠ "-" := by simpa using e
              have l1 : ("+" : Str).length = 1 := by decide +kernel
              walk_at "goS"
              · rw [tl_len (c ++ _), tl_app, List.length_append, ← tl_len, ← tl_len]; omega
              rw [if_neg e] at hY
              exact hY
          walk_at "goS"
          rw [show (lawEv (ns.take i)).map (fun c : Str => D.str (if c = ("-" : Str) then s else c ++ "+" ++ s)) = dS ((lawEv (ns.take i)).map (fun c : Str => if c = ("-" : Str) then s else c ++ "+" ++ s)) from (List.map_map ..).symm, ← dS_app, ← hev]
          exact hn _ _ ⟨_, _, _, rfl, rfl⟩
        · rw [List.length_map, List.take_length] at hI
          exact hk _ _ hI
      · obtain ⟨x3, x4, x5, rfl, rfl⟩ := hJ
        walk_at "goS"
        rw [e2] at q
        exact Fin.of q)) only [↓hid_eq]
theorem ok__law_wide (T : TX w K mg a) : FnOk P w K mg base CX0 5 a.f__law_wide a.fd__law_wide ["bag"] (lift K 1 sp__law_wide) := by
  refine okD (k := 4) T.fn__law_wide sc__law_wide rfl fun cdv A outer s H E hr => ⟨_, _, (dss_cons (ds_set (j := 1) sc__law_wide.nd rfl (by first | exact .inl rfl | exact .inr rfl) (de_call (ok__law_of T) (hr.mono (by decide)) (by rfl) T.mg__law_of T.kp__law_of T.bd__law_of pass0 (da_cons (dv 0) (da_cons (de_lst (da_cons de_str (da_cons de_str (da_cons de_str da_nil)))) da_nil))))
      (dss_cons (ds_set (j := 2) sc__law_wide.nd rfl (by first | exact .inl rfl | exact .inr rfl) (de_call (ok__law_fresh T) (hr.mono (by decide)) (by rfl) T.mg__law_fresh T.kp__law_fresh T.bd__law_fresh pass0 (da_cons (dv 0) (da_cons (de_ifExp (dt_cmp (op_eqD hr.units) s2_eq (dv 1) de_str (nomark _)) (de_add de_int (de_call (ok__law_draw T) (hr.mono (by decide)) (by rfl) T.mg__law_draw T.kp__law_draw T.bd__law_draw pass0 (da_cons (dv 0) (da_cons de_int da_nil)))) (de_add de_int (de_call (ok__law_draw T) (hr.mono (by decide)) (by rfl) T.mg__law_draw T.kp__law_draw T.bd__law_draw pass0 (da_cons (dv 0) (da_cons de_int da_nil))))) (da_cons (de_lst da_nil) da_nil)))))
      (dss_one (ds_ret (de_tup (da_cons (dv 1) (da_cons (dv 2) (da_cons (de_call (ok__law_written T) (hr.mono (by decide)) (by rfl) T.mg__law_written T.kp__law_written T.bd__law_written pass0 (da_cons (dv 1) (da_cons (dv 2) da_nil))) (da_cons (de_bm PySem.F.plainAttrs_str PySem.F.slot_str_join PySem.F.type_str_join mt_join sm_join (.inr (.inr (.inl rfl))) de_str (da_cons (de_add (de_lst (da_cons (dv 1) da_nil)) (dv 2)) da_nil)) da_nil))))))))), fun ds M Q hl h => ?_⟩
  obtain ⟨b, rfl, ⟨c0, hb, hc0⟩, q⟩ := h
  walk_at "start"
  walk_at "goS"
  refine ⟨b, _, rfl, by simp, by simp, ⟨c0, hb, hc0⟩, fun d c hd hc => ?_⟩
  obtain ⟨s, hs, rfl⟩ : ∃ s, s ∈ [("letters" : Str), "letters", "events"] ∧ d = .str s := by
    have : d ∈ dS [("letters" : Str), "letters", "events"] := hd
    obtain ⟨s, hs, rfl⟩ := List.mem_map.mp this
    exact ⟨s, hs, rfl⟩
  have hlow : ∀ x ∈ tl s, x < 1000 := by
    simp only [List.mem_cons, List.not_mem_nil, or_false] at hs
    rcases hs with rfl | rfl | rfl <;> decide +kernel
  walk_at "goS"
  refine go_eqS (strOk_of hlow) (by decide +kernel) ?_
  walk_at "goS"
 
  have fin : ∀ (ns : List Str) (c : MC), GoodBag c → GoodG s ns → Q (.tup [.str s, .list (dS ns), .list (dS (lettersOf s ns)), .str (gtext s ns)]) (mupd M b c) := fun ns c hc g => q s ns c g hc
  refine go_ite (fun e => ?_) (fun e => ?_)
  · have e : s = "letters" := by simpa using e
    walk_at "goS"
    refine ⟨b, 5, rfl, by decide, by decide, ⟨c, mupd_same, hc⟩, fun i c2 hi0 hi1 hc2 => ?_⟩
    rw [mupd_mupd]
    walk_at "goS"
    obtain ⟨n, rfl⟩ : ∃ n : Nat, i = (n : Int) := ⟨i.toNat, by omega⟩
    refine ⟨b, 2 + n, [], by simp, by omega, by simp, by simp, ⟨c2, mupd_same, hc2⟩, fun ys c3 hyl hnd hno hc3 => ?_⟩
    rw [mupd_mupd]
    have g : GoodG s ys := ⟨.inl ⟨e, by omega, by omega⟩, by simpa using hnd, hno⟩
    walk_at "goS"
    refine ⟨s, ys, rfl, g, ?_⟩
    walk_at "goS"
    have e1 : ([D.str s] ++ dS ys) = dS (s :: ys) := rfl
    have hs7 := (g.k).2.1
    rw [← tl_len] at hs7
    refine ⟨by decide +kernel, s :: ys, rfl, by simp; omega, fun y hy => ?_, ?_⟩
    · rcases List.mem_cons.mp hy with rfl | hy
      · omega
      · have := (hno y hy).l8
        omega
    walk_at "goS"
    exact Fin.of (fin ys c3 hc3 g)
  · have e : s = "events" := by
      have e : s ≠ "letters" := by simpa using e
      simp only [List.mem_cons, List.not_mem_nil, or_false] at hs
      rcases hs with z | z | z
      · exact absurd z e
      · exact absurd z e
      · exact z
    walk_at "goS"
    refine ⟨b, 3, rfl, by decide, by decide, ⟨c, mupd_same, hc⟩, fun i c2 hi0 hi1 hc2 => ?_⟩
    rw [mupd_mupd]
    walk_at "goS"
    obtain ⟨n, rfl⟩ : ∃ n : Nat, i = (n : Int) := ⟨i.toNat, by omega⟩
    refine ⟨b, 1 + n, [], by simp, by omega, by simp, by simp, ⟨c2, mupd_same, hc2⟩, fun ys c3 hyl hnd hno hc3 => ?_⟩
    rw [mupd_mupd]
    have g : GoodG s ys := ⟨.inr ⟨e, by omega, by omega⟩, by simpa using hnd, hno⟩
    walk_at "goS"
    refine ⟨s, ys, rfl, g, ?_⟩
    walk_at "goS"
    have e1 : ([D.str s] ++ dS ys) = dS (s :: ys) := rfl
    have hs7 := (g.k).2.1
    rw [← tl_len] at hs7
    refine ⟨by decide +kernel, s :: ys, rfl, by simp; omega, fun y hy => ?_, ?_⟩
    · rcases List.mem_cons.mp hy with rfl | hy
      · omega
      · have := (hno y hy).l8
        omega
    walk_at "goS"
    exact Fin.of (fin ys c3 hc3 g)
end
end L29

set_option Elab.async false
set_option linter.all false
set_option maxRecDepth 100000
set_option maxHeartbeats 4000000
set_option synthInstance.maxHeartbeats 400000
set_option synthInstance.maxSize 2000
namespace L29
open PySem PySem.Spec PyProof.Rows L2 DL
def sp__law_text : aSp := fun ds M Q => ∃ k ns p, ds = [.list (dS (lettersOf k ns)), dP p] ∧ GoodG k ns ∧ PathOk (lettersOf k ns).length p ∧ Q (.str (rtext (lettersOf k ns) p)) M
def sp__law_item_text : aSp := fun ds M Q => ∃ k ns ls, ds = [.list (dS (lettersOf k ns)), .list (dN ls)] ∧ GoodG k ns ∧ (∀ x ∈ ls, x < (lettersOf k ns).length) ∧ ls.length ≤ 1000 ∧ Q (.str (itext (lettersOf k ns) ls)) M
def sp__law_at : aSp := fun ds M Q => ∃ p : Path, ∃ n : Nat, ds = [dP p, .int (n : Int)] ∧ p.2 ≠ [] ∧ n ≤ 100000 ∧ Q (.int (seqAt p n : Nat)) M
def sp__law_path : aSp := fun ds M Q => ∃ b, ∃ n : Nat, ds = [.ref b, .int (n : Int)] ∧ 2 ≤ n ∧ n ≤ 100 ∧ Bag M b ∧ ∀ p c, PathOk n p → GoodBag c → Q (dP p) (mupd M b c)
section
variable {P : Program} {w : World} {K : PySem.W.Frag} {mg : Str → Option Value} {base : Heap} {a : Ad}
theorem sg_ix {k : Str} {ns : List Str} {ls : List Nat} (h : ∀ x ∈ ls, x < (lettersOf k ns).length) : ∀ z ∈ ls, atI (dS (lettersOf k ns)) (z : Int) = some (.str (sg (lettersOf k ns) z)) := fun z hz => by
    rw [atI_c, List.getElem?_map, sg_at (h z hz)]; rfl
theorem ok__law_text (T : TX w K mg a) : FnOk P w K mg base CX0 1 a.f__law_text a.fd__law_text ["signs", "path"] (lift K 2 sp__law_text) := by
  refine hid_of ?_; simp (discharger := (with_unfolding_all
    refine okD (k := 0) T.fn__law_text sc__law_text rfl fun cdv A outer s H E hr => ⟨_, _, (dss_one (ds_ret (de_bm PySem.F.plainAttrs_str PySem.F.slot_str_join PySem.F.type_str_join mt_join sm_join (.inr (.inr (.inl rfl))) de_str (da_cons (de_add (de_add (de_add (de_lc (own := [("x", 2)]) rfl sc__law_text.nd (di_seq (de_ix (hu_of hr) (dv 1) de_int (fun _ _ => rfl))) (blkOk_by (by rfl)) (fun _ _ _ _ _ => (dg_name (j := 2) sc__law_text.nd rfl (by first | exact .inl rfl | exact .inr rfl))) (fun _ _ _ _ _ => dts_nil) (fun _ _ _ _ _ => (de_ix (hu_of hr) (dv 0) (dv 2) (fun _ _ => rfl))) om_name) (de_lst (da_cons de_str da_nil))) (de_lc (own := [("x", 2)]) rfl sc__law_text.nd (di_seq (de_ix (hu_of hr) (dv 1) de_int (fun _ _ => rfl))) (blkOk_by (by rfl)) (fun _ _ _ _ _ => (dg_name (j := 2) sc__law_text.nd rfl (by first | exact .inl rfl | exact .inr rfl))) (fun _ _ _ _ _ => dts_nil) (fun _ _ _ _ _ => (de_ix (hu_of hr) (dv 0) (dv 2) (fun _ _ => rfl))) om_name)) (de_lst (da_cons de_str da_nil))) da_nil)))), fun ds M Q hl h => ?_⟩
    obtain ⟨k, ns, p, rfl, g, hp, q⟩ := h
    have h1 := hp.l1
    have h2 := hp.l2
    walk_at "start"
    walk_at "goS"
    refine go_lcX (F := fun z => .str (sg (lettersOf k ns) z)) (fun z KY KN hz hY => ?_) ?_
    · have ez := sg_ix hp.lt1 z hz
      walk_at "goS"
      exact hY
    walk_at "goS"
    refine go_lcX (F := fun z => .str (sg (lettersOf k ns) z)) (fun z KY KN hz hY => ?_) ?_
    · have ez := sg_ix hp.lt2 z hz
      walk_at "goS"
      exact hY
    walk_at "goS"
    refine ⟨by decide +kernel, rparts (lettersOf k ns) p, ?_, ?_, fun y hy => by have := (rparts_sp g hp y hy).2; omega, ?_⟩
    · unfold rparts
      simp [itemsM, items, Function.comp_def]
    · unfold rparts
      simp; omega
    exact Fin.of q)) only [↓hid_eq]
theorem ok__law_item_text (T : TX w K mg a) : FnOk P w K mg base CX0 1 a.f__law_item_text a.fd__law_item_text ["signs", "item"] (lift K 2 sp__law_item_text) := by
  refine hid_of ?_; simp (discharger := (with_unfolding_all
    refine okD (k := 0) T.fn__law_item_text sc__law_item_text rfl fun cdv A outer s H E hr => ⟨_, _, (dss_one (ds_ret (de_ifExp (dt_cmp op_gt s2_gt (de_callB call_lenA sl_len (by rfl) T.b_len (by decide +kernel) (da_cons (dv 1) da_nil)) de_int (nomark _)) (de_bm PySem.F.plainAttrs_str PySem.F.slot_str_join PySem.F.type_str_join mt_join sm_join (.inr (.inr (.inl rfl))) de_str (da_cons (de_lc (own := [("x", 2)]) rfl sc__law_item_text.nd (di_seq (dv 1)) (blkOk_by (by rfl)) (fun _ _ _ _ _ => (dg_name (j := 2) sc__law_item_text.nd rfl (by first | exact .inl rfl | exact .inr rfl))) (fun _ _ _ _ _ => dts_nil) (fun _ _ _ _ _ => (de_ix (hu_of hr) (dv 0) (dv 2) (fun _ _ => rfl))) om_name) da_nil)) de_str))), fun ds M Q hl h => ?_⟩
    obtain ⟨k, ns, ls, rfl, g, hs, hl1, q⟩ := h
    walk_at "start"
    walk_at "goS"
    unfold itext at q
    refine go_ite (fun e => ?_) (fun e => ?_)
    · have e : ls ≠ [] := fun z => by subst z; simp at e
      rw [if_neg e] at q
      walk_at "goS"
      refine go_lcX (F := fun z => .str (sg (lettersOf k ns) z)) (fun z KY KN hz hY => ?_) ?_
      · have ez := sg_ix hs z hz
        walk_at "goS"
        exact hY
      walk_at "goS"
      refine ⟨by decide +kernel, ls.map (sg (lettersOf k ns)), ?_, ?_, fun y hy => ?_, ?_⟩
      · simp [itemsM, items, Function.comp_def]
      · simp; omega
      · obtain ⟨x, hx, rfl⟩ := List.mem_map.mp hy
        have := (g.lets _ (sg_mem (hs x hx))).l26
        omega
      exact Fin.of q
    · have e : ls = [] := by cases ls with | nil => rfl | cons x r => simp at e
      rw [if_pos e] at q
      walk_at "goS"
      exact Fin.of q)) only [↓hid_eq]
theorem ok__law_at (T : TX w K mg a) : FnOk P w K mg base CX0 1 a.f__law_at a.fd__law_at ["path", "spot"] (lift K 2 sp__law_at) := by
  refine hid_of ?_; simp (discharger := (with_unfolding_all
    refine okD (k := 0) T.fn__law_at sc__law_at rfl fun cdv A outer s H E hr => ⟨_, _, (dss_cons (ds_asg (dv 0) (dg_tup (dgs_cons (dg_name (j := 2) sc__law_at.nd rfl (by first | exact .inl rfl | exact .inr rfl)) (dgs_cons (dg_name (j := 3) sc__law_at.nd rfl (by first | exact .inl rfl | exact .inr rfl)) dgs_nil))))
        (dss_one (ds_ret (de_ifExp (dt_cmp op_lt s2_lt (dv 1) (de_callB call_lenA sl_len (by rfl) T.b_len (by decide +kernel) (da_cons (dv 2) da_nil)) (nomark _)) (de_ix (hu_of hr) (dv 2) (dv 1) (fun _ _ => rfl)) (de_ix (hu_of hr) (dv 3) (de_mod (de_callTy call_int1 sl_int (by rfl) T.b_int (by decide +kernel) (da_cons (de_sub (dv 1) (de_callB call_lenA sl_len (by rfl) T.b_len (by decide +kernel) (da_cons (dv 2) da_nil))) da_nil)) (de_callB call_lenA sl_len (by rfl) T.b_len (by decide +kernel) (da_cons (dv 3) da_nil))) (fun _ _ => rfl)))))), fun ds M Q hl h => ?_⟩
    obtain ⟨p, n, rfl, hne, hn, q⟩ := h
    have hL := List.length_pos_iff.mpr hne
    walk_at "start"
    walk_at "goS"
    refine go_ite (fun e => ?_) (fun e => ?_)
    · have e : n < p.1.length := by simpa using e
      have ez : atI (dN p.1) (n : Int) = some (.int (seqAt p n : Nat)) := by
        rw [atI_c, List.getElem?_map, List.getElem?_eq_getElem e, seq_hd e]; rfl
      walk_at "goS"
      exact Fin.of q
    · have e : p.1.length ≤ n := by simpa using e
      have ez : atI (dN p.2) (((n : Int) - ((dN p.1).length : Int)) % ((dN p.2).length : Int)) = some (.int (seqAt p n : Nat)) := by
        obtain ⟨j, rfl⟩ := Nat.exists_eq_add_of_le e
        have e1 : (((p.1.length + j : Nat) : Int) - ((dN p.1).length : Int)) % ((dN p.2).length : Int) = ((j % p.2.length : Nat) : Int) := by
          rw [length_dN, length_dN, show ((p.1.length + j : Nat) : Int) - (p.1.length : Int) = (j : Int) by omega]
          exact (Int.natCast_emod _ _).symm
        have hj : j % p.2.length < p.2.length := Nat.mod_lt _ hL
        rw [e1, atI_c, List.getElem?_map, List.getElem?_eq_getElem hj, seq_tl]
        unfold cyc
        rw [List.getD_eq_getElem?_getD, List.getElem?_eq_getElem hj]
        rfl
      walk_at "goS"
      exact Fin.of q)) only [↓hid_eq]
theorem ok__law_path (T : TX w K mg a) : FnOk P w K mg base CX0 2 a.f__law_path a.fd__law_path ["bag", "size"] (lift K 2 sp__law_path) := by
  refine hid_of ?_; simp (discharger := (with_unfolding_all
    refine okD (k := 1) T.fn__law_path sc__law_path rfl fun cdv A outer s H E hr => ⟨_, _, (dss_cons (ds_set (j := 2) sc__law_path.nd rfl (by first | exact .inl rfl | exact .inr rfl) (de_call (ok__law_draw T) (hr.mono (by decide)) (by rfl) T.mg__law_draw T.kp__law_draw T.bd__law_draw pass0 (da_cons (dv 0) (da_cons de_int da_nil))))
        (dss_cons (ds_if (dt_cmp (op_eqD hr.units) s2_eq (dv 2) de_int (nomark _)) (dss_cons (ds_setLc (j := 3) (own := [("n", 5)]) rfl sc__law_path.nd rfl rfl (sw_true rfl rfl rfl (by decide +kernel)) (di_range1 (by rfl) T.b_range (da_cons (de_add de_int (de_call (ok__law_draw T) (hr.mono (by decide)) (by rfl) T.mg__law_draw T.kp__law_draw T.bd__law_draw pass0 (da_cons (dv 0) (da_cons de_int da_nil)))) da_nil)) (blkOk_by (by rfl)) (fun _ _ _ _ _ => (dg_name (j := 5) sc__law_path.nd rfl (by first | exact .inl rfl | exact .inr rfl))) (fun _ _ _ _ _ => dts_nil) (fun _ _ _ _ _ => (de_call (ok__law_draw T) (hr.mono (by decide)) (by rfl) T.mg__law_draw T.kp__law_draw T.bd__law_draw pass0 (da_cons (dv 0) (da_cons (dv 1) da_nil)))) om_name)
        (dss_one (ds_ret (de_tup (da_cons (dv 3) (da_cons (de_lc (own := [("n", 5)]) rfl sc__law_path.nd (di_range1 (by rfl) T.b_range (da_cons (de_add de_int (de_call (ok__law_draw T) (hr.mono (by decide)) (by rfl) T.mg__law_draw T.kp__law_draw T.bd__law_draw pass0 (da_cons (dv 0) (da_cons de_int da_nil)))) da_nil)) (blkOk_by (by rfl)) (fun _ _ _ _ _ => (dg_name (j := 5) sc__law_path.nd rfl (by first | exact .inl rfl | exact .inr rfl))) (fun _ _ _ _ _ => dts_nil) (fun _ _ _ _ _ => (de_call (ok__law_draw T) (hr.mono (by decide)) (by rfl) T.mg__law_draw T.kp__law_draw T.bd__law_draw pass0 (da_cons (dv 0) (da_cons (dv 1) da_nil)))) om_name) da_nil)))))) dss_nil)
        (dss_cons (ds_set (j := 4) sc__law_path.nd rfl (by first | exact .inl rfl | exact .inr rfl) (de_ifExp (dt_cmp op_lt s2_lt (dv 2) de_int (nomark _)) de_int (dv 1)))
        (dss_cons (ds_setLc (j := 3) (own := [("n", 5)]) rfl sc__law_path.nd rfl rfl (sw_true rfl rfl rfl (by decide +kernel)) (di_range1 (by rfl) T.b_range (da_cons (de_call (ok__law_draw T) (hr.mono (by decide)) (by rfl) T.mg__law_draw T.kp__law_draw T.bd__law_draw pass0 (da_cons (dv 0) (da_cons de_int da_nil))) da_nil)) (blkOk_by (by rfl)) (fun _ _ _ _ _ => (dg_name (j := 5) sc__law_path.nd rfl (by first | exact .inl rfl | exact .inr rfl))) (fun _ _ _ _ _ => dts_nil) (fun _ _ _ _ _ => (de_call (ok__law_draw T) (hr.mono (by decide)) (by rfl) T.mg__law_draw T.kp__law_draw T.bd__law_draw pass0 (da_cons (dv 0) (da_cons (dv 4) da_nil)))) om_name)
        (dss_one (ds_ret (de_tup (da_cons (dv 3) (da_cons (de_lc (own := [("n", 5)]) rfl sc__law_path.nd (di_range1 (by rfl) T.b_range (da_cons (de_add de_int (de_call (ok__law_draw T) (hr.mono (by decide)) (by rfl) T.mg__law_draw T.kp__law_draw T.bd__law_draw pass0 (da_cons (dv 0) (da_cons de_int da_nil)))) da_nil)) (blkOk_by (by rfl)) (fun _ _ _ _ _ => (dg_name (j := 5) sc__law_path.nd rfl (by first | exact .inl rfl | exact .inr rfl))) (fun _ _ _ _ _ => dts_nil) (fun _ _ _ _ _ => (de_call (ok__law_draw T) (hr.mono (by decide)) (by rfl) T.mg__law_draw T.kp__law_draw T.bd__law_draw pass0 (da_cons (dv 0) (da_cons (dv 4) da_nil)))) om_name) da_nil))))))))), fun ds M Q hl h => ?_⟩
    obtain ⟨b, n, rfl, h2, h100, ⟨c0, hb, hc0⟩, q⟩ := h
    walk_at "start"
    walk_at "goS"
    refine ⟨b, 8, rfl, by decide, by decide, ⟨c0, hb, hc0⟩, fun i c hi0 hi1 hc => ?_⟩
    walk_at "goS"
    refine go_ite (fun e => ?_) (fun e => ?_)
    · walk_at "goS"
      refine ⟨b, 11, rfl, by omega, by omega, ⟨c, mupd_same, hc⟩, fun i1 c1 i10 i11 hc1 => ?_⟩
      rw [mupd_mupd]
      walk_at "goS"
      refine go_lcI (fun j acc M2 => ∃ c ls, M2 = mupd M b c ∧ GoodBag c ∧ acc = dN ls ∧ ls.length = j ∧ ∀ y ∈ ls, (y : Int) < n) ⟨c1, [], rfl, hc1, rfl, rfl, by simp⟩ (fun j d acc M2 KY KN hd hI hY hN => ?_) (fun acc M2 hI => ?_)
      · obtain ⟨c3, ls, rfl, hc3, rfl, hj, hls⟩ := hI
        walk_at "goS"
        refine ⟨b, n, rfl, by omega, by omega, ⟨c3, mupd_same, hc3⟩, fun y c4 hy0 hy1 hc4 => ?_⟩
        rw [mupd_mupd]
        obtain ⟨y, rfl⟩ : ∃ m : Nat, y = (m : Int) := ⟨y.toNat, by omega⟩
        walk_at "goS"
        refine hY _ _ ⟨c4, ls ++ [y], rfl, hc4, (dN_snoc ..).symm, by simp [hj], fun z hz => ?_⟩
        rcases List.mem_append.mp hz with hz | hz
        · exact hls z hz
        · rcases List.mem_singleton.mp hz with rfl
          exact hy1
      obtain ⟨c5, u, rfl, hc5, rfl, hlu, hbu⟩ := hI
      rw [length_rng] at hlu
      walk_at "goS"
      refine ⟨b, 7, rfl, by omega, by omega, ⟨c5, mupd_same, hc5⟩, fun i2 c6 i20 i21 hc6 => ?_⟩
      rw [mupd_mupd]
      walk_at "goS"
      refine go_lcI (fun j acc M2 => ∃ c ls, M2 = mupd M b c ∧ GoodBag c ∧ acc = dN ls ∧ ls.length = j ∧ ∀ y ∈ ls, (y : Int) < n) ⟨c6, [], rfl, hc6, rfl, rfl, by simp⟩ (fun j d acc M2 KY KN hd hI hY hN => ?_) (fun acc M2 hI => ?_)
      · obtain ⟨c3, ls, rfl, hc3, rfl, hj, hls⟩ := hI
        walk_at "goS"
        refine ⟨b, n, rfl, by omega, by omega, ⟨c3, mupd_same, hc3⟩, fun y c4 hy0 hy1 hc4 => ?_⟩
        rw [mupd_mupd]
        obtain ⟨y, rfl⟩ : ∃ m : Nat, y = (m : Int) := ⟨y.toNat, by omega⟩
        walk_at "goS"
        refine hY _ _ ⟨c4, ls ++ [y], rfl, hc4, (dN_snoc ..).symm, by simp [hj], fun z hz => ?_⟩
        rcases List.mem_append.mp hz with hz | hz
        · exact hls z hz
        · rcases List.mem_singleton.mp hz with rfl
          exact hy1
      obtain ⟨c8, v, rfl, hc8, rfl, hlv, hbv⟩ := hI
      rw [length_rng] at hlv
      walk_at "goS"
      exact Fin.of (q (u, v) _ ⟨by show u.length ≤ 40; omega, fun z => by rw [show v = [] from z] at hlv; simp at hlv; omega, by show v.length ≤ 20; omega, fun x hx => by have := hbu x hx; omega, fun x hx => by have := hbv x hx; omega⟩ hc8)
    · walk_at "goS"
      refine go_ite (fun e => ?_) (fun e => ?_)
      · walk_at "goS"
        refine ⟨b, 7, rfl, by omega, by omega, ⟨c, mupd_same, hc⟩, fun i1 c1 i10 i11 hc1 => ?_⟩
        rw [mupd_mupd]
        walk_at "goS"
        refine go_lcI (fun j acc M2 => ∃ c ls, M2 = mupd M b c ∧ GoodBag c ∧ acc = dN ls ∧ ls.length = j ∧ ∀ y ∈ ls, (y : Int) < 2) ⟨c1, [], rfl, hc1, rfl, rfl, by simp⟩ (fun j d acc M2 KY KN hd hI hY hN => ?_) (fun acc M2 hI => ?_)
        · obtain ⟨c3, ls, rfl, hc3, rfl, hj, hls⟩ := hI
          walk_at "goS"
          refine ⟨b, 2, rfl, by omega, by omega, ⟨c3, mupd_same, hc3⟩, fun y c4 hy0 hy1 hc4 => ?_⟩
          rw [mupd_mupd]
          obtain ⟨y, rfl⟩ : ∃ m : Nat, y = (m : Int) := ⟨y.toNat, by omega⟩
          walk_at "goS"
          refine hY _ _ ⟨c4, ls ++ [y], rfl, hc4, (dN_snoc ..).symm, by simp [hj], fun z hz => ?_⟩
          rcases List.mem_append.mp hz with hz | hz
          · exact hls z hz
          · rcases List.mem_singleton.mp hz with rfl
            exact hy1
        obtain ⟨c5, u, rfl, hc5, rfl, hlu, hbu⟩ := hI
        rw [length_rng] at hlu
        walk_at "goS"
        refine ⟨b, 6, rfl, by omega, by omega, ⟨c5, mupd_same, hc5⟩, fun i2 c6 i20 i21 hc6 => ?_⟩
        rw [mupd_mupd]
        walk_at "goS"
        refine go_lcI (fun j acc M2 => ∃ c ls, M2 = mupd M b c ∧ GoodBag c ∧ acc = dN ls ∧ ls.length = j ∧ ∀ y ∈ ls, (y : Int) < 2) ⟨c6, [], rfl, hc6, rfl, rfl, by simp⟩ (fun j d acc M2 KY KN hd hI hY hN => ?_) (fun acc M2 hI => ?_)
        · obtain ⟨c3, ls, rfl, hc3, rfl, hj, hls⟩ := hI
          walk_at "goS"
          refine ⟨b, 2, rfl, by omega, by omega, ⟨c3, mupd_same, hc3⟩, fun y c4 hy0 hy1 hc4 => ?_⟩
          rw [mupd_mupd]
          obtain ⟨y, rfl⟩ : ∃ m : Nat, y = (m : Int) := ⟨y.toNat, by omega⟩
          walk_at "goS"
          refine hY _ _ ⟨c4, ls ++ [y], rfl, hc4, (dN_snoc ..).symm, by simp [hj], fun z hz => ?_⟩
          rcases List.mem_append.mp hz with hz | hz
          · exact hls z hz
          · rcases List.mem_singleton.mp hz with rfl
            exact hy1
        obtain ⟨c8, v, rfl, hc8, rfl, hlv, hbv⟩ := hI
        rw [length_rng] at hlv
        walk_at "goS"
        exact Fin.of (q (u, v) _ ⟨by show u.length ≤ 40; omega, fun z => by rw [show v = [] from z] at hlv; simp at hlv; omega, by show v.length ≤ 20; omega, fun x hx => by have := hbu x hx; omega, fun x hx => by have := hbv x hx; omega⟩ hc8)
      · walk_at "goS"
        refine ⟨b, 7, rfl, by omega, by omega, ⟨c, mupd_same, hc⟩, fun i1 c1 i10 i11 hc1 => ?_⟩
        rw [mupd_mupd]
        walk_at "goS"
        refine go_lcI (fun j acc M2 => ∃ c ls, M2 = mupd M b c ∧ GoodBag c ∧ acc = dN ls ∧ ls.length = j ∧ ∀ y ∈ ls, (y : Int) < n) ⟨c1, [], rfl, hc1, rfl, rfl, by simp⟩ (fun j d acc M2 KY KN hd hI hY hN => ?_) (fun acc M2 hI => ?_)
        · obtain ⟨c3, ls, rfl, hc3, rfl, hj, hls⟩ := hI
          walk_at "goS"
          refine ⟨b, n, rfl, by omega, by omega, ⟨c3, mupd_same, hc3⟩, fun y c4 hy0 hy1 hc4 => ?_⟩
          rw [mupd_mupd]
          obtain ⟨y, rfl⟩ : ∃ m : Nat, y = (m : Int) := ⟨y.toNat, by omega⟩
          walk_at "goS"
          refine hY _ _ ⟨c4, ls ++ [y], rfl, hc4, (dN_snoc ..).symm, by simp [hj], fun z hz => ?_⟩
          rcases List.mem_append.mp hz with hz | hz
          · exact hls z hz
          · rcases List.mem_singleton.mp hz with rfl
            exact hy1
        obtain ⟨c5, u, rfl, hc5, rfl, hlu, hbu⟩ := hI
        rw [length_rng] at hlu
        walk_at "goS"
        refine ⟨b, 6, rfl, by omega, by omega, ⟨c5, mupd_same, hc5⟩, fun i2 c6 i20 i21 hc6 => ?_⟩
        rw [mupd_mupd]
        walk_at "goS"
        refine go_lcI (fun j acc M2 => ∃ c ls, M2 = mupd M b c ∧ GoodBag c ∧ acc = dN ls ∧ ls.length = j ∧ ∀ y ∈ ls, (y : Int) < n) ⟨c6, [], rfl, hc6, rfl, rfl, by simp⟩ (fun j d acc M2 KY KN hd hI hY hN => ?_) (fun acc M2 hI => ?_)
        · obtain ⟨c3, ls, rfl, hc3, rfl, hj, hls⟩ := hI
          walk_at "goS"
          refine ⟨b, n, rfl, by omega, by omega, ⟨c3, mupd_same, hc3⟩, fun y c4 hy0 hy1 hc4 => ?_⟩
          rw [mupd_mupd]
          obtain ⟨y, rfl⟩ : ∃ m : Nat, y = (m : Int) := ⟨y.toNat, by omega⟩
          walk_at "goS"
          refine hY _ _ ⟨c4, ls ++ [y], rfl, hc4, (dN_snoc ..).symm, by simp [hj], fun z hz => ?_⟩
          rcases List.mem_append.mp hz with hz | hz
          · exact hls z hz
          · rcases List.mem_singleton.mp hz with rfl
            exact hy1
        obtain ⟨c8, v, rfl, hc8, rfl, hlv, hbv⟩ := hI
        rw [length_rng] at hlv
        walk_at "goS"
        exact Fin.of (q (u, v) _ ⟨by show u.length ≤ 40; omega, fun z => by rw [show v = [] from z] at hlv; simp at hlv; omega, by show v.length ≤ 20; omega, fun x hx => by have := hbu x hx; omega, fun x hx => by have := hbv x hx; omega⟩ hc8))) only [↓hid_eq]
end
end L29

set_option Elab.async false
set_option linter.all false
set_option maxRecDepth 100000
set_option maxHeartbeats 4000000
set_option synthInstance.maxHeartbeats 400000
set_option synthInstance.maxSize 2000
namespace L29
open PySem PySem.Spec PyProof.Rows L2 DL
def sp__law_other : aSp := fun ds M Q => ∃ b n p, ds = [.ref b, dP p] ∧ PathOk n p ∧ Bag M b ∧ ∀ r c, PathOk n r → SameSeq r p → GoodBag c → Q (dP r) (mupd M b c)
def sp__law_near : aSp := fun ds M Q => ∃ b p, ∃ n : Nat, ds = [.ref b, dP p, .int (n : Int)] ∧ PathOk n p ∧ 2 ≤ n ∧ n ≤ 100 ∧ Bag M b ∧ ∀ r c, PathOk n r → GoodBag c → Q (dP r) (mupd M b c)
def sp__law_least : aSp := fun ds M Q => ∃ p : Path, ds = [dP p] ∧ p.2 ≠ [] ∧ p.1.length ≤ 1000 ∧ p.2.length ≤ 1000 ∧ ∀ x, IsL x p → Q (dP x) M
theorem cut1 (c : Nat) (v : List Nat) : DL.cutD (dN (c :: v)) (some 1) none = dN v := by
  rw [show (1 : Int) = ((1 : Nat) : Int) from rfl, cutD_drop]; rfl
theorem cut01 (c : Nat) (v : List Nat) : DL.cutD (dN (c :: v)) none (some 1) = dN [c] := by
  rw [show (1 : Int) = ((1 : Nat) : Int) from rfl, cutD_take]; rfl
theorem cut_last {ds : List D} {d : D} : DL.cutD (ds ++ [d]) (some (-1)) none = [d] := by
  unfold DL.cutD
  have e : HT.sIx (ds ++ [d]).length 0 (some (-1)) = ds.length := by
    show (if (-1 : Int) < 0 then ((-1 : Int) + ((ds ++ [d]).length : Int)).toNat else min (-1 : Int).toNat (ds ++ [d]).length) = ds.length
    rw [if_pos (by decide), List.length_append, List.length_singleton]
    omega
  rw [HT.sIx_none, e, List.drop_left' rfl, List.take_of_length_le (by simp)]
theorem dN_app (x y : List Nat) : dN x ++ dN y = dN (x ++ y) := List.map_append.symm
theorem first_rot (t : List Nat) (ht : t ≠ []) : ∃ k r, (List.range t.length).filter (fun k => decide (t.drop (1 + k) ++ t.take (1 + k) = t)) = k :: r ∧ k < t.length ∧ t.drop (1 + k) ++ t.take (1 + k) = t ∧ ∀ d, 0 < d → d < 1 + k → ¬ (t.drop d ++ t.take d = t) := by
  have hL := List.length_pos_iff.mpr ht
  have h0 : t.drop (1 + (t.length - 1)) ++ t.take (1 + (t.length - 1)) = t := by
    rw [show 1 + (t.length - 1) = t.length by omega, List.drop_length, List.take_length]; rfl
  have hf := List.head?_filter (p := fun k => decide (t.drop (1 + k) ++ t.take (1 + k) = t)) (l := List.range t.length)
  cases e : (List.range t.length).filter (fun k => decide (t.drop (1 + k) ++ t.take (1 + k) = t)) with
  | nil =>
    have := List.filter_eq_nil_iff.mp e (t.length - 1) (List.mem_range.mpr (by omega))
    exact absurd (decide_eq_true h0) this
  | cons k r =>
    rw [e] at hf
    obtain ⟨h1, h2, h3⟩ := List.find?_range_eq_some.mp hf.symm
    refine ⟨k, r, rfl, List.mem_range.mp h2, of_decide_eq_true h1, fun d hd hl z => ?_⟩
    have := h3 (d - 1) (by omega)
    rw [show 1 + (d - 1) = d by omega, decide_eq_true z] at this
    cases this
section
variable {P : Program} {w : World} {K : PySem.W.Frag} {mg : Str → Option Value} {base : Heap} {a : Ad}
theorem ok__law_other (T : TX w K mg a) : FnOk P w K mg base CX0 2 a.f__law_other a.fd__law_other ["bag", "path"] (lift K 2 sp__law_other) := by
  refine hid_of ?_; simp (discharger := (with_unfolding_all
    refine okD (k := 1) T.fn__law_other sc__law_other rfl fun cdv A outer s H E hr => ⟨_, _, (dss_cons (ds_par (i := 2) (j := 3) sc__law_other.nd rfl rfl (da_cons (de_callTy call_list_of sl_listM (by rfl) T.b_list (by decide +kernel) (da_cons (de_ix (hu_of hr) (dv 1) de_int (fun _ _ => rfl)) da_nil)) (da_cons (de_callTy call_list_of sl_list (by rfl) T.b_list (by decide +kernel) (da_cons (de_ix (hu_of hr) (dv 1) de_int (fun _ _ => rfl)) da_nil)) da_nil)))
        (dss_cons (ds_set (j := 3) sc__law_other.nd rfl (by first | exact .inl rfl | exact .inr rfl) (de_mul (dv 3) (de_add de_int (de_call (ok__law_draw T) (hr.mono (by decide)) (by rfl) T.mg__law_draw T.kp__law_draw T.bd__law_draw pass0 (da_cons (dv 0) (da_cons (de_div de_int (de_callB call_lenA sl_len (by rfl) T.b_len (by decide +kernel) (da_cons (dv 3) da_nil))) da_nil))))))
        (dss_cons (ds_for (di_range1 (by rfl) T.b_range (da_cons (de_call (ok__law_draw T) (hr.mono (by decide)) (by rfl) T.mg__law_draw T.kp__law_draw T.bd__law_draw pass0 (da_cons (dv 0) (da_cons (de_sub de_int (de_callB call_lenA sl_len (by rfl) T.b_len (by decide +kernel) (da_cons (dv 2) da_nil))) da_nil))) da_nil)) (dg_name (j := 4) sc__law_other.nd rfl (by first | exact .inl rfl | exact .inr rfl)) (dss_cons (ds_expr (de_bm PySem.F.plainAttrs_list PySem.F.slot_list_append PySem.F.type_list_append mt_append sm_append (.inl rfl) (dv 2) (da_cons (de_ix (hu_of hr) (dv 3) de_int (fun _ _ => rfl)) da_nil)))
        (dss_one (ds_set (j := 3) sc__law_other.nd rfl (by first | exact .inl rfl | exact .inr rfl) (de_add (de_slice (dv 3) (do_some de_int) do_none) (de_slice (dv 3) do_none (do_some de_int)))))) PassesOwn.never)
        (dss_one (ds_ret (de_tup (da_cons (dv 2) (da_cons (dv 3) da_nil)))))))), fun ds M Q hl h => ?_⟩
    obtain ⟨b, n, p, rfl, hp, ⟨c0, hb, hc0⟩, q⟩ := h
    have h1 := hp.l1
    have h2 := hp.l2
    have hL := List.length_pos_iff.mpr hp.ne
    have hcd : CDiv 20 ((dN p.2).length : Int) := by rw [length_dN]; exact ⟨by omega, by omega⟩
    obtain ⟨m, hm, hm1, hm2, hm3⟩ : ∃ m : Nat, (20 : Int) / ((dN p.2).length : Int) = m ∧ 1 ≤ m ∧ m ≤ 20 ∧ m * p.2.length ≤ 20 :=
      ⟨20 / p.2.length, by rw [length_dN]; exact (Int.natCast_ediv 20 _).symm, Nat.div_pos h2 hL, Nat.div_le_self .., Nat.div_mul_le_self ..⟩
    walk_at "start"
    walk_at "go"
    intro ph hph
    have hne : b ≠ ph := mne hb hph
    walk_at "go"
    rw [hm]
    refine ⟨b, m, rfl, by omega, by omega, ⟨c0, by rw [mupd_ne hne]; exact hb, hc0⟩, fun i c hi0 hi1 hc => ?_⟩
    rw [mupd_comm (Ne.symm hne)]
    obtain ⟨i, rfl⟩ : ∃ m : Nat, i = (m : Int) := ⟨i.toNat, by omega⟩
    have hlen : (1 + i) * p.2.length ≤ 20 := Nat.le_trans (Nat.mul_le_mul_right _ (by omega)) hm3
    have e1 : (1 + (i : Int)).toNat = 1 + i := by omega
    walk_at "go"
    · rw [length_dN, e1, Nat.mul_comm]; omega
    rw [e1, dN_flat]
    have ht0 : (List.replicate (1 + i) p.2).flatten.length ≤ 20 := by rw [flat_len]; exact hlen
    have hs0 : SameSeq (p.1, (List.replicate (1 + i) p.2).flatten) p := seq_rep hp.ne (by omega)
    have hm0 : ∀ x ∈ (List.replicate (1 + i) p.2).flatten, x < n := fun x hx => by
      obtain ⟨l, hl, hx⟩ := List.mem_flatten.mp hx
      rw [List.eq_of_mem_replicate hl] at hx
      exact hp.lt2 x hx
    have hn0 : (List.replicate (1 + i) p.2).flatten ≠ [] := by
      intro z
      have := congrArg List.length z
      rw [flat_len] at this
      have h3 := Nat.mul_pos (show 0 < 1 + i by omega) hL
      have h4 : (1 + i) * p.2.length = 0 := this
      omega
    generalize (List.replicate (1 + i) p.2).flatten = t0 at ht0 hs0 hm0 hn0 ⊢
    walk_at "go"
    refine go_seqK (J := fun G' M' => ∃ h t x4 c2, G' = [some (.ref b), some (dP p), some (.ref ph), some (.list (dN t)), x4] ∧ M' = mupd (mupd M b c2) ph (.lst (dN h)) ∧ SameSeq (h, t) p ∧ PathOk n (h, t) ∧ GoodBag c2) (fun nx hk => ?_) (fun G' M' hJ => ?_)
    · walk_at "goS"
      refine ⟨b, _, rfl, by rw [length_dN]; omega, by rw [length_dN]; omega, ⟨c, by rw [mupd_ne hne, mupd_same], hc⟩, fun j c2 hj0 hj1 hc2 => ?_⟩
      rw [mupd_comm (Ne.symm hne), mupd_mupd]
      rw [length_dN] at hj1
      obtain ⟨j, rfl⟩ : ∃ m : Nat, j = (m : Int) := ⟨j.toNat, by omega⟩
      walk_at "goS"
      refine go_forI (fun j' G' M' => ∃ h t x4, G' = [some (.ref b), some (dP p), some (.ref ph), some (.list (dN t)), x4] ∧ M' = mupd (mupd M b c2) ph (.lst (dN h)) ∧ SameSeq (h, t) p ∧ h.length = p.1.length + j' ∧ t.length = t0.length ∧ (∀ x ∈ h, x < n) ∧ ∀ x ∈ t, x < n)
        ⟨p.1, t0, _, rfl, rfl, hs0, rfl, rfl, hp.lt1, hm0⟩ (fun j' d G' M' nx' hd hI hn => ?_) (fun G' M' hI => ?_)
      · obtain ⟨h, t, x4, rfl, rfl, hss, hhl, htl, hlh, hlt⟩ := hI
        obtain ⟨hjl, rfl⟩ := rng_get hd
        cases t with
        | nil => exact absurd (List.length_eq_zero_iff.mp htl.symm) hn0
        | cons y v =>
          have ez : atI (dN (y :: v)) 0 = some (.int (y : Nat)) := by rw [atI_0]; rfl
          walk_at "goS"
          rw [cut1, cut01]
          walk_at "goS"
          · rw [length_dN, length_dN]; simp at htl ⊢; omega
          rw [mupd_mupd, cut1, cut01, dN_app, ← dN_snoc]
          walk_at "goS"
          refine hn _ _ ⟨h ++ [y], v ++ [y], _, rfl, rfl, (seq_rot h v y).trans hss, by simp [hhl]; omega, by simpa using htl, fun x hx => ?_, fun x hx => ?_⟩
          · rcases List.mem_append.mp hx with hx | hx
            · exact hlh x hx
            · rcases List.mem_singleton.mp hx with rfl
              exact hlt _ (by simp)
          · rcases List.mem_append.mp hx with hx | hx
            · exact hlt x (List.mem_cons_of_mem _ hx)
            · rcases List.mem_singleton.mp hx with rfl
              exact hlt _ (by simp)
      · obtain ⟨h, t, x4, rfl, rfl, hss, hhl, htl, hlh, hlt⟩ := hI
        rw [length_rng] at hhl
        exact hk _ _ ⟨h, t, _, c2, rfl, rfl, hss, ⟨by show h.length ≤ 40; omega, fun z => hn0 (List.length_eq_zero_iff.mp (by rw [← htl, show t = [] from z]; rfl)), by show t.length ≤ 20; omega, hlh, hlt⟩, hc2⟩
    · obtain ⟨h, t, x4, c2, rfl, rfl, hss, hpk, hc2⟩ := hJ
      walk_at "goS"
      refine DL.Fin.deep (L := [ph]) (.tup (.cons (.ref (by simp) mupd_same (dzs_same _)) (dzs_same _))) (by simp) (fun x hx => ?_) (M' := mupd M b c2) (fun x cc e => ?_) (q (h, t) c2 hpk hss hc2)
      · rcases List.mem_singleton.mp hx with rfl
        exact ⟨⟨_, mupd_same⟩, hph⟩
      · have hx : x ≠ ph := by
          intro z; subst z; rw [mupd_ne (Ne.symm hne), hph] at e; cases e
        rw [mdelL_get, if_neg (fun z => hx (List.mem_singleton.mp z)), mupd_ne hx]
        exact e)) only [↓hid_eq]
theorem ok__law_near (T : TX w K mg a) : FnOk P w K mg base CX0 3 a.f__law_near a.fd__law_near ["bag", "path", "size"] (lift K 3 sp__law_near) := by
  refine hid_of ?_; simp (discharger := (with_unfolding_all
    refine okD (k := 2) T.fn__law_near sc__law_near rfl fun cdv A outer s H E hr => ⟨_, _, (dss_cons (ds_set (j := 3) sc__law_near.nd rfl (by first | exact .inl rfl | exact .inr rfl) (de_call (ok__law_draw T) (hr.mono (by decide)) (by rfl) T.mg__law_draw T.kp__law_draw T.bd__law_draw pass0 (da_cons (dv 0) (da_cons de_int da_nil))))
        (dss_cons (ds_if (dt_cmp (op_eqD hr.units) s2_eq (dv 3) de_int (nomark _)) (dss_one (ds_ret (de_call (ok__law_path T) (hr.mono (by decide)) (by rfl) T.mg__law_path T.kp__law_path T.bd__law_path pass0 (da_cons (dv 0) (da_cons (dv 2) da_nil))))) dss_nil)
        (dss_cons (ds_par (i := 4) (j := 5) sc__law_near.nd rfl rfl (da_cons (de_callTy call_list_of sl_listM (by rfl) T.b_list (by decide +kernel) (da_cons (de_ix (hu_of hr) (dv 1) de_int (fun _ _ => rfl)) da_nil)) (da_cons (de_callTy call_list_of sl_listM (by rfl) T.b_list (by decide +kernel) (da_cons (de_ix (hu_of hr) (dv 1) de_int (fun _ _ => rfl)) da_nil)) da_nil)))
        (dss_cons (ds_if (DW.dt (dw_and (dt_cmp (op_eqD hr.units) s2_eq (dv 3) de_int (nomark _)) (dw_and1 (dt_cmp op_gt s2_gt (de_callB call_lenA sl_len (by rfl) T.b_len (by decide +kernel) (da_cons (dv 4) da_nil)) de_int (nomark _))))) (dss_one (ds_asg (de_call (ok__law_draw T) (hr.mono (by decide)) (by rfl) T.mg__law_draw T.kp__law_draw T.bd__law_draw pass0 (da_cons (dv 0) (da_cons (dv 2) da_nil))) (dg_subL (dv 4) (de_call (ok__law_draw T) (hr.mono (by decide)) (by rfl) T.mg__law_draw T.kp__law_draw T.bd__law_draw pass0 (da_cons (dv 0) (da_cons (de_callB call_lenA sl_len (by rfl) T.b_len (by decide +kernel) (da_cons (dv 4) da_nil)) da_nil)))))) (dss_one (ds_if (dt_cmp (op_eqD hr.units) s2_eq (dv 3) de_int (nomark _)) (dss_one (ds_asg (de_call (ok__law_draw T) (hr.mono (by decide)) (by rfl) T.mg__law_draw T.kp__law_draw T.bd__law_draw pass0 (da_cons (dv 0) (da_cons (dv 2) da_nil))) (dg_subL (dv 5) (de_call (ok__law_draw T) (hr.mono (by decide)) (by rfl) T.mg__law_draw T.kp__law_draw T.bd__law_draw pass0 (da_cons (dv 0) (da_cons (de_callB call_lenA sl_len (by rfl) T.b_len (by decide +kernel) (da_cons (dv 5) da_nil)) da_nil)))))) dss_nil)))
        (dss_one (ds_ret (de_tup (da_cons (dv 4) (da_cons (dv 5) da_nil))))))))), fun ds M Q hl h => ?_⟩
    obtain ⟨b, p, n, rfl, hp, hn2, hn100, ⟨c0, hb, hc0⟩, q⟩ := h
    have h1 := hp.l1
    have h2 := hp.l2
    have hL := List.length_pos_iff.mpr hp.ne
    walk_at "start"
    walk_at "go"
    refine ⟨b, 4, rfl, by decide, by decide, ⟨c0, hb, hc0⟩, fun i c hi0 hi1 hc => ?_⟩
    walk_at "goS"
    refine go_ite (fun e => ?_) (fun e => ?_)
    · walk_at "goS"
      refine ⟨b, n, rfl, hn2, hn100, ⟨c, mupd_same, hc⟩, fun r c2 hr hc2 => ?_⟩
      rw [mupd_mupd]
      exact Fin.of (q r c2 hr hc2)
    · walk_at "goS"
      intro ph hph
      walk_at "goS"
      intro pl hpl
      walk_at "go"
      have hne : b ≠ ph := mne mupd_same hph
      have hnl : b ≠ pl := mne (c := c) (by rw [mupd_ne hne, mupd_same]) hpl
      have hpl' : ph ≠ pl := mne mupd_same hpl
      have hph0 : M ph = none := by rw [mupd_ne (Ne.symm hne)] at hph; exact hph
      have hpl0 : M pl = none := by rw [mupd_ne (Ne.symm hpl'), mupd_ne (Ne.symm hnl)] at hpl; exact hpl
      refine go_seqK (J := fun G' M' => ∃ h t c2, G' = [some (.ref b), some (dP p), some (.int (n : Int)), some (.int i), some (.ref ph), some (.ref pl)] ∧ M' = mupd (mupd (mupd M b c2) ph (.lst (dN h))) pl (.lst (dN t)) ∧ PathOk n (h, t) ∧ GoodBag c2) (fun nx hk => ?_) (fun G' M' hJ => ?_)
      · have hb2 : (mupd (mupd (mupd M b c) ph (.lst (dN p.1))) pl (.lst (dN p.2))) b = some c := by rw [mupd_ne hnl, mupd_ne hne, mupd_same]
        have hmv : ∀ c2 h t, mupd (mupd (mupd (mupd M b c) ph (.lst (dN h))) pl (.lst (dN t))) b c2 = mupd (mupd (mupd M b c2) ph (.lst (dN h))) pl (.lst (dN t)) := fun c2 h t => by
          rw [mupd_comm (Ne.symm hnl), mupd_comm (Ne.symm hne), mupd_mupd]
        walk_at "goS"
        have hmv2 : ∀ c2 c3 h t, mupd (mupd (mupd (mupd M b c2) ph (.lst (dN h))) pl (.lst (dN t))) b c3 = mupd (mupd (mupd M b c3) ph (.lst (dN h))) pl (.lst (dN t)) := fun c2 c3 h t => by
          rw [mupd_comm (Ne.symm hnl), mupd_comm (Ne.symm hne), mupd_mupd]
        have two : asIf (aTest (aBin fEq (aVar 3) (aC (D.int 2)))) (asAsg (aCall 2 sp__law_draw (aCons (aVar 0) (aCons (aVar 2) aNil))) (agSubL (aVar 5) (aCall 2 sp__law_draw (aCons (aVar 0) (aCons (aCB fLen (aCons (aVar 5) aNil)) aNil))))) asNext { m0 := M, nx := nx, rt := DL.Fin K M Q } [some (D.ref b), some (dP p), some (D.int n), some (D.int i), some (D.ref ph), some (D.ref pl)] (mupd (mupd (mupd M b c) ph (MC.lst (dN p.1))) pl (MC.lst (dN p.2))) := by
          walk_at "goS"
          refine go_ite (fun e2 => ?_) (fun e2 => ?_)
          · walk_at "goS"
            refine ⟨b, n, rfl, by omega, by omega, ⟨c, hb2, hc⟩, fun y c2 hy0 hy1 hc2 => ?_⟩
            rw [hmv]
            obtain ⟨y, rfl⟩ : ∃ m : Nat, y = (m : Int) := ⟨y.toNat, by omega⟩
            have gh : mupd (mupd (mupd M b c2) ph (.lst (dN p.1))) pl (.lst (dN p.2)) ph = some (.lst (dN p.1)) := by rw [mupd_ne hpl', mupd_same]
            walk_at "goS"
            refine ⟨b, _, rfl, by rw [length_dN]; omega, by rw [length_dN]; omega, ⟨c2, by rw [mupd_ne hnl, mupd_ne hne, mupd_same], hc2⟩, fun z c3 hz0 hz1 hc3 => ?_⟩
            rw [hmv2]
            obtain ⟨z, rfl⟩ : ∃ m : Nat, z = (m : Int) := ⟨z.toNat, by omega⟩
            have hz2 : z < p.2.length := by rw [length_dN] at hz1; omega
            have gh : mupd (mupd (mupd M b c3) ph (.lst (dN p.1))) pl (.lst (dN p.2)) ph = some (.lst (dN p.1)) := by rw [mupd_ne hpl', mupd_same]
            have hix : ixN (dN p.2).length (z : Int) = some z := ixN_c (by rw [length_dN]; exact hz2)
            have es : (dN p.2).set z (.int (y : Nat)) = dN (p.2.set z y) := List.map_set.symm
            walk_at "goS"
            rw [mupd_mupd]
            refine hk _ _ ⟨p.1, p.2.set z y, c3, rfl, by rw [es], ⟨h1, fun e => hp.ne (List.length_eq_zero_iff.mp (by rw [← List.length_set (i := z) (a := y), show p.2.set z y = [] from e]; rfl)), by show (p.2.set z y).length ≤ 20; rw [List.length_set]; exact h2, hp.lt1, fun x hx => ?_⟩, hc3⟩
            rcases List.mem_or_eq_of_mem_set hx with hx | rfl
            · exact hp.lt2 x hx
            · omega
          · walk_at "goS"
            exact hk _ _ ⟨p.1, p.2, c, rfl, rfl, hp, hc⟩
        refine go_ite (fun e1 => ?_) (fun e1 => ?_)
        · have gh : mupd (mupd (mupd M b c) ph (.lst (dN p.1))) pl (.lst (dN p.2)) ph = some (.lst (dN p.1)) := by rw [mupd_ne hpl', mupd_same]
          walk_at "goS"
          refine go_ite (fun e2 => ?_) (fun e2 => ?_)
          · have e2 : 0 < p.1.length := by rw [length_dN] at e2; simpa using e2
            walk_at "goS"
            refine ⟨b, n, rfl, by omega, by omega, ⟨c, hb2, hc⟩, fun y c2 hy0 hy1 hc2 => ?_⟩
            rw [hmv]
            obtain ⟨y, rfl⟩ : ∃ m : Nat, y = (m : Int) := ⟨y.toNat, by omega⟩
            have gh : mupd (mupd (mupd M b c2) ph (.lst (dN p.1))) pl (.lst (dN p.2)) ph = some (.lst (dN p.1)) := by rw [mupd_ne hpl', mupd_same]
            walk_at "goS"
            refine ⟨b, _, rfl, by rw [length_dN]; omega, by rw [length_dN]; omega, ⟨c2, by rw [mupd_ne hnl, mupd_ne hne, mupd_same], hc2⟩, fun z c3 hz0 hz1 hc3 => ?_⟩
            rw [hmv2]
            obtain ⟨z, rfl⟩ : ∃ m : Nat, z = (m : Int) := ⟨z.toNat, by omega⟩
            have hz2 : z < p.1.length := by rw [length_dN] at hz1; omega
            have gh : mupd (mupd (mupd M b c3) ph (.lst (dN p.1))) pl (.lst (dN p.2)) ph = some (.lst (dN p.1)) := by rw [mupd_ne hpl', mupd_same]
            have hix : ixN (dN p.1).length (z : Int) = some z := ixN_c (by rw [length_dN]; exact hz2)
            have es : (dN p.1).set z (.int (y : Nat)) = dN (p.1.set z y) := List.map_set.symm
            walk_at "goS"
            rw [mupd_comm hpl', mupd_mupd]
            refine hk _ _ ⟨p.1.set z y, p.2, c3, rfl, by rw [es, mupd_comm hpl'], ⟨by show (p.1.set z y).length ≤ 40; rw [List.length_set]; exact h1, hp.ne, h2, fun x hx => ?_, hp.lt2⟩, hc3⟩
            rcases List.mem_or_eq_of_mem_set hx with hx | rfl
            · exact hp.lt1 x hx
            · omega
          · exact two
        · exact two
      · obtain ⟨h, t, c2, rfl, rfl, hpk, hc2⟩ := hJ
        have gh : mupd (mupd (mupd M b c2) ph (.lst (dN h))) pl (.lst (dN t)) ph = some (.lst (dN h)) := by rw [mupd_ne hpl', mupd_same]
        walk_at "goS"
        refine DL.Fin.deep (L := [ph, pl]) (.tup (.cons (.ref (by simp) gh (dzs_same _)) (.cons (.ref (by simp) mupd_same (dzs_same _)) .nil))) (by simp [hpl']) (fun x hx => ?_) (M' := mupd M b c2) (fun x cc e => ?_) (q (h, t) c2 hpk hc2)
        · simp only [List.mem_cons, List.not_mem_nil, or_false] at hx
          rcases hx with rfl | rfl
          · exact ⟨⟨_, gh⟩, hph0⟩
          · exact ⟨⟨_, mupd_same⟩, hpl0⟩
        · have hx : x ≠ ph := by
            intro z; subst z; rw [mupd_ne (Ne.symm hne), hph0] at e; cases e
          have hx2 : x ≠ pl := by
            intro z; subst z; rw [mupd_ne (Ne.symm hnl), hpl0] at e; cases e
          rw [mdelL_get, if_neg (fun z => by simp at z; rcases z with z | z; exact hx z; exact hx2 z), mupd_ne hx2, mupd_ne hx]
          exact e)) only [↓hid_eq]
theorem ok__law_least (T : TX w K mg a) : FnOk P w K mg base CX0 1 a.f__law_least a.fd__law_least ["path"] (lift K 1 sp__law_least) := by
  refine hid_of ?_; simp (discharger := (with_unfolding_all
    refine okD (k := 0) T.fn__law_least sc__law_least rfl fun cdv A outer s H E hr => ⟨_, _, (dss_cons (ds_asg (de_tup (da_cons (de_callTy call_list_of sl_listM (by rfl) T.b_list (by decide +kernel) (da_cons (de_ix (hu_of hr) (dv 0) de_int (fun _ _ => rfl)) da_nil)) (da_cons (de_callTy call_list_of sl_list (by rfl) T.b_list (by decide +kernel) (da_cons (de_ix (hu_of hr) (dv 0) de_int (fun _ _ => rfl)) da_nil)) da_nil))) (dg_tup (dgs_cons (dg_name (j := 1) sc__law_least.nd rfl (by first | exact .inl rfl | exact .inr rfl)) (dgs_cons (dg_name (j := 2) sc__law_least.nd rfl (by first | exact .inl rfl | exact .inr rfl)) dgs_nil))))
        (dss_cons (ds_set (j := 2) sc__law_least.nd rfl (by first | exact .inl rfl | exact .inr rfl) (de_slice (dv 2) do_none (do_some (de_ix (hu_of hr) (de_lc (own := [("n", 4)]) rfl sc__law_least.nd (di_range2 (by rfl) T.b_range (da_cons de_int (da_cons (de_add (de_callB call_lenA sl_len (by rfl) T.b_len (by decide +kernel) (da_cons (dv 2) da_nil)) de_int) da_nil))) (blkOk_by (by rfl)) (fun _ _ _ _ _ => (dg_name (j := 4) sc__law_least.nd rfl (by first | exact .inl rfl | exact .inr rfl))) (fun _ _ _ _ _ => (dts_one (dt_cmp (op_eqD hr.units) s2_eq (de_add (de_slice (dv 2) (do_some (dv 4)) do_none) (de_slice (dv 2) do_none (do_some (dv 4)))) (dv 2) (nomark _)))) (fun _ _ _ _ _ => (dv 4)) om_name) de_int (fun _ _ => rfl)))))
        (dss_cons (ds_for (di_range1 (by rfl) T.b_range (da_cons (de_callB call_lenA sl_len (by rfl) T.b_len (by decide +kernel) (da_cons (de_ix (hu_of hr) (dv 0) de_int (fun _ _ => rfl)) da_nil)) da_nil)) (dg_name (j := 3) sc__law_least.nd rfl (by first | exact .inl rfl | exact .inr rfl)) (dss_cons (ds_if (dt_cmp (op_neD hr.units) s2_ne (de_ix (hu_of hr) (dv 1) (de_neg de_int) (fun _ _ => rfl)) (de_ix (hu_of hr) (dv 2) (de_neg de_int) (fun _ _ => rfl)) (nomark _)) (dss_one ds_break) dss_nil)
        (dss_cons (ds_expr (de_bm0 PySem.F.plainAttrs_list PySem.F.slot_list_pop PySem.F.type_list_pop mt_pop sm_pop (.inl rfl) (dv 1)))
        (dss_one (ds_set (j := 2) sc__law_least.nd rfl (by first | exact .inl rfl | exact .inr rfl) (de_add (de_slice (dv 2) (do_some (de_neg de_int)) do_none) (de_slice (dv 2) do_none (do_some (de_neg de_int)))))))) PassesOwn.never)
        (dss_one (ds_ret (de_tup (da_cons (dv 1) (da_cons (dv 2) da_nil)))))))), fun ds M Q hl h => ?_⟩
    obtain ⟨p, rfl, hne, hl1, hl2, q⟩ := h
    have hL := List.length_pos_iff.mpr hne
    walk_at "start"
    walk_at "go"
    intro ph hph
    walk_at "go"
    rw [show ((dN p.2).length + 1 - 1 : Int).toNat = p.2.length by rw [length_dN]; omega]
    unfold rng
    refine go_lcXP (fun k => decide (p.2.drop (1 + k) ++ p.2.take (1 + k) = p.2)) (F := fun k => .int ((1 + k : Nat) : Int)) (fun k KY KN hk hY hN => ?_) ?_
    · have ek : (1 : Int) + (k : Int) = ((1 + k : Nat) : Int) := by omega
      walk_at "go"
      · rw [ek, cutD_drop, cutD_take, List.length_drop, List.length_take, length_dN]; omega
      rw [ek, cutD_drop, cutD_take, ← List.map_drop, ← List.map_take, dN_app]
      refine go_eqLN ?_
      refine go_ktest ?_
      refine go_ite (fun e => ?_) (fun e => ?_)
      · walk_at "go"
        exact hY e
      · exact hN e
    obtain ⟨k, r, ef, hkl, hrot, hmin⟩ := first_rot p.2 hne
    rw [ef]
    have e0 : atI (List.map (fun k : Nat => D.int ((1 + k : Nat) : Int)) (k :: r)) 0 = some (.int ((1 + k : Nat) : Int)) := by rw [atI_0]; rfl
    walk_at "go"
    rw [cutD_take, ← List.map_take]
    have hper := (rot_per (t := p.2) (n := 1 + k) (by omega) (by omega)).mp hrot
    obtain ⟨_, hcy, hpr⟩ := min_period (t := p.2) (n := 1 + k) (by omega) (by omega) hper fun d hd hl => Classical.byContradiction fun hno => hmin d hd hl ((rot_per hd (by omega)).mpr fun i => Classical.byContradiction fun z => hno ⟨i, z⟩)
    have htl : (p.2.take (1 + k)).length = 1 + k := by rw [List.length_take]; omega
    generalize p.2.take (1 + k) = t0 at hcy hpr htl ⊢
    refine go_seqK (J := fun G' M2 => ∃ h t x3 x4, G' = [some (dP p), some (.ref ph), some (.list (dN t)), x3, x4] ∧ M2 = mupd M ph (.lst (dN h)) ∧ IsL (h, t) p) (fun nx hk => ?_) (fun G' M2 hJ => ?_)
    · walk_at "go"
      rw [length_dN, Int.toNat_natCast]
      have hfin : ∀ (h t : List Nat), t.length = 1 + k → SameSeq (h, t) p → Prim t → (∀ c u v, h = u ++ [c] → t = v ++ [c] → False) → IsL (h, t) p := fun h t hl hss hpt hno => ⟨⟨fun z => by rw [show t = [] from z] at hl; simp at hl; omega, hpt, hno⟩, hss⟩
      refine go_forI (fun j G' M2 => ∃ h t x3 x4, G' = [some (dP p), some (.ref ph), some (.list (dN t)), x3, x4] ∧ M2 = mupd M ph (.lst (dN h)) ∧ SameSeq (h, t) p ∧ Prim t ∧ t.length = 1 + k ∧ h.length + j = p.1.length)
        ⟨p.1, t0, _, _, rfl, rfl, seq_cyc hcy, hpr, htl, rfl⟩ (fun j d G' M2 nx' hd hI hn => ?_) (fun G' M2 hI => ?_)
      · obtain ⟨h, t, x3, x4, rfl, rfl, hss, hpt, htl2, hhl⟩ := hI
        obtain ⟨hjl, rfl⟩ := rng_get hd
        rcases List.eq_nil_or_concat h with e | ⟨u, c, e⟩
        · subst e; simp at hhl; omega
        have e : h = u ++ [c] := by rw [e]; try rw [List.concat_eq_append]
        subst e
        rcases List.eq_nil_or_concat t with e | ⟨v, d, e⟩
        · subst e; simp at htl2; omega
        have e : t = v ++ [d] := by rw [e]; try rw [List.concat_eq_append]
        subst e
        have ec : atI (dN (u ++ [c])) (-1) = some (.int (c : Nat)) := by rw [dN_snoc]; exact atI_last
        have ed : atI (dN (v ++ [d])) (-1) = some (.int (d : Nat)) := by rw [dN_snoc]; exact atI_last
        walk_at "goS"
        refine go_ite (fun e => ?_) (fun e => ?_)
        · have e : c ≠ d := fun z => by subst z; simp at e
          walk_at "go"
          refine hk _ _ ⟨_, _, _, _, rfl, rfl, hfin _ _ htl2 hss hpt fun c' u' v' z1 z2 => e ?_⟩
          have h1 := List.append_inj' z1 rfl
          have h2 := List.append_inj' z2 rfl
          simp at h1 h2
          rw [h1.2, h2.2]
        · have e : c = d := by have : (c : Int) = (d : Int) := by simpa using e
                               omega
          subst e
          have epop : (dN (u ++ [c]))[(dN (u ++ [c])).length - 1]? = some (.int (c : Nat)) := by rw [dN_snoc]; simp
          walk_at "go"
          · rw [dN_snoc, cut_init, cut_last]
            simp at htl2 ⊢
            omega
          rw [mupd_mupd, dN_snoc, dN_snoc, List.dropLast_concat, cut_init, cut_last]
          walk_at "go"
          refine hn _ _ ⟨u, c :: v, _, _, rfl, rfl, (seq_rot u v c).symm.trans hss, prim_rot hpt, by simpa using htl2, by simp at hhl; omega⟩
      · obtain ⟨h, t, x3, x4, rfl, rfl, hss, hpt, htl2, hhl⟩ := hI
        rw [length_rng] at hhl
        have e : h = [] := List.length_eq_zero_iff.mp (by omega)
        subst e
        exact hk _ _ ⟨_, _, _, _, rfl, rfl, hfin _ _ htl2 hss hpt fun c u v z _ => by simp at z⟩
    · obtain ⟨h, t, x3, x4, rfl, rfl, hI⟩ := hJ
      walk_at "go"
      refine DL.Fin.deep (L := [ph]) (.tup (.cons (.ref (by simp) mupd_same (dzs_same _)) (dzs_same _))) (by simp) (fun b hb => ?_) (M' := M) (fun b cc e => ?_) (q (h, t) hI)
      · rcases List.mem_singleton.mp hb with rfl
        exact ⟨⟨_, mupd_same⟩, hph⟩
      · rw [mdelL_get, if_neg, mupd_ne]
        · exact e
        · intro z; subst z; rw [hph] at e; cases e
        · intro z; rcases List.mem_singleton.mp z with rfl; rw [hph] at e; cases e)) only [↓hid_eq]
end
end L29

set_option Elab.async false
set_option linter.all false
set_option maxRecDepth 100000
set_option maxHeartbeats 4000000
set_option synthInstance.maxHeartbeats 400000
set_option synthInstance.maxSize 2000
namespace L29
open PySem PySem.Spec PyProof.Rows L2 DL
mutual
/-- plain data, at most k deep -/
def plainN : Nat → D → Bool
  | _, .non => true
  | _, .bl _ => true
  | _, .int _ => true
  | _, .str x => PyData.strOk x
  | k + 1, .list ds => decide (ds.length ≤ 1000000) && plainsN k ds
  | k + 1, .tup ds => decide (ds.length ≤ 1000000) && plainsN k ds
  | _, _ => false
def plainsN : Nat → List D → Bool
  | _, [] => true
  | k, d :: ds => plainN k d && plainsN k ds
end
theorem plains_get {k : Nat} : ∀ {ds : List D} {i : Nat} {d : D}, plainsN k ds = true → ds[i]? = some d → plainN k d = true
  | [], i, d, _, h => by simp at h
  | x :: xs, 0, d, h, e => by
    simp only [plainsN, Bool.and_eq_true] at h
    simp at e
    subst e
    exact h.1
  | x :: xs, i + 1, d, h, e => by
    simp only [plainsN, Bool.and_eq_true] at h
    simp at e
    exact plains_get h.2 e
/-- asked of a thing and itself -/
def sp__law_like : Nat → aSp
  | 0 => fun _ _ _ => False
  | k + 1 => fun ds M Q => ∃ f, ds = [f, f] ∧ plainN k f = true ∧ Q (.bl true) M
section
variable {P : Program} {w : World} {K : PySem.W.Frag} {mg : Str → Option Value} {base : Heap} {a : Ad}
theorem ok__law_like (T : TX w K mg a) (k : Nat) : FnOk P w K mg base CX0 k a.f__law_like a.fd__law_like ["told", "due"] (lift K 2 (sp__law_like k)) := by
  refine hid_of ?_; simp (discharger := (with_unfolding_all
    induction k with
    | zero => exact ok_never (fun _ _ _ h => h)
    | succ k IH => ?_
    refine okD (k := k) T.fn__law_like sc__law_like rfl fun cdv A outer s H E hr => ⟨_, _, (dss_cons (ds_if (DW.dt (dw_or (dt_cmp op_isN s2_is (dv 1) de_non (nomark _)) (dw_or1 (dt_cmp op_isN s2_is (dv 0) de_non (nomark _))))) (dss_one (ds_ret (de_and (de_cmp op_isN s2_is (dv 1) de_non (nomark _)) (de_one (de_cmp op_isN s2_is (dv 0) de_non (nomark _)))))) dss_nil)
        (dss_cons (ds_if (dt_tru (de_callB call_isiT sl_isiT (by rfl) T.b_isinstance (by decide +kernel) (da_cons (dv 1) (da_cons (de_tup (da_cons (de_ty (n := "list") (by rfl) T.b_list) (da_cons (de_ty (n := "tuple") (by rfl) T.b_tuple) da_nil))) da_nil)))) (dss_cons (ds_if (DW.dt (dw_or (dt_cmp (op_neD hr.units) s2_ne (de_callB call_isi sl_isi (by rfl) T.b_isinstance (by decide +kernel) (da_cons (dv 0) (da_cons (de_ty (n := "list") (by rfl) T.b_list) da_nil))) (de_callB call_isi sl_isi (by rfl) T.b_isinstance (by decide +kernel) (da_cons (dv 1) (da_cons (de_ty (n := "list") (by rfl) T.b_list) da_nil))) (nomark _)) (dw_or1 (dt_cmp (op_neD hr.units) s2_ne (de_callB call_isi sl_isi (by rfl) T.b_isinstance (by decide +kernel) (da_cons (dv 0) (da_cons (de_ty (n := "tuple") (by rfl) T.b_tuple) da_nil))) (de_callB call_isi sl_isi (by rfl) T.b_isinstance (by decide +kernel) (da_cons (dv 1) (da_cons (de_ty (n := "tuple") (by rfl) T.b_tuple) da_nil))) (nomark _))))) (dss_one (ds_ret de_bl)) dss_nil)
        (dss_one (ds_ret (de_and (de_cmp (op_eqD hr.units) s2_eq (de_callB call_lenA sl_len (by rfl) T.b_len (by decide +kernel) (da_cons (dv 0) da_nil)) (de_callB call_lenA sl_len (by rfl) T.b_len (by decide +kernel) (da_cons (dv 1) da_nil)) (nomark _)) (de_one (de_callB (cr_all rfl) sl_all (by rfl) T.b_all (by decide +kernel) (da_cons (de_lc (own := [("a", 2), ("b", 3)]) rfl sc__law_like.nd (di_zip (by rfl) T.b_zip (da_cons (dv 0) (da_cons (dv 1) da_nil))) (blkOk_by (by rfl)) (fun _ _ _ _ _ => (dg_tup (dgs_cons (dg_name (j := 2) sc__law_like.nd rfl (by first | exact .inl rfl | exact .inr rfl)) (dgs_cons (dg_name (j := 3) sc__law_like.nd rfl (by first | exact .inl rfl | exact .inr rfl)) dgs_nil)))) (fun _ _ _ _ _ => dts_nil) (fun _ _ _ _ _ => (de_call IH (hr.mono (by first | decide | exact Nat.le_refl _)) (by rfl) T.mg__law_like T.kp__law_like T.bd__law_like pass0 (da_cons (dv 2) (da_cons (dv 3) da_nil)))) (om_tup (om_cons om_name (om_cons om_name om_nil)))) da_nil))))))) dss_nil)
        (dss_cons (ds_if (DW.dt (dw_or (dt_tru (de_callB call_isiT sl_isiT (by rfl) T.b_isinstance (by decide +kernel) (da_cons (dv 0) (da_cons (de_tup (da_cons (de_ty (n := "list") (by rfl) T.b_list) (da_cons (de_ty (n := "tuple") (by rfl) T.b_tuple) (da_cons (de_ty (n := "dict") (by rfl) T.b_dict) da_nil)))) da_nil)))) (dw_or1 (dt_cmp (op_neD hr.units) s2_ne (de_callB call_isi sl_isi (by rfl) T.b_isinstance (by decide +kernel) (da_cons (dv 0) (da_cons (de_ty (n := "bool") (by rfl) T.b_bool) da_nil))) (de_callB call_isi sl_isi (by rfl) T.b_isinstance (by decide +kernel) (da_cons (dv 1) (da_cons (de_ty (n := "bool") (by rfl) T.b_bool) da_nil))) (nomark _))))) (dss_one (ds_ret de_bl)) dss_nil)
        (dss_cons (ds_if (DW.dt (dw_or (dt_cmp (op_neD hr.units) s2_ne (de_callB call_isi sl_isi (by rfl) T.b_isinstance (by decide +kernel) (da_cons (dv 0) (da_cons (de_ty (n := "str") (by rfl) T.b_str) da_nil))) (de_callB call_isi sl_isi (by rfl) T.b_isinstance (by decide +kernel) (da_cons (dv 1) (da_cons (de_ty (n := "str") (by rfl) T.b_str) da_nil))) (nomark _)) (dw_or1 (dt_cmp (op_neD hr.units) s2_ne (de_callB call_isi sl_isi (by rfl) T.b_isinstance (by decide +kernel) (da_cons (dv 0) (da_cons (de_ty (n := "int") (by rfl) T.b_int) da_nil))) (de_callB call_isi sl_isi (by rfl) T.b_isinstance (by decide +kernel) (da_cons (dv 1) (da_cons (de_ty (n := "int") (by rfl) T.b_int) da_nil))) (nomark _))))) (dss_one (ds_ret de_bl)) dss_nil)
        (dss_one (ds_ret (de_callTy call_bool1 sl_bool (by rfl) T.b_bool (by decide +kernel) (da_cons (de_cmp (op_eqD hr.units) s2_eq (dv 0) (dv 1) (nomark _)) da_nil)))))))), fun ds M Q hl h => ?_⟩
    obtain ⟨d, rfl, hd, q⟩ := h
    walk_at "start"
    cases d <;> first | (cases k <;> (simp [plainN] at hd; done)) | skip
    case non =>
      walk_at "goS"
      exact Fin.of q
    case bl x =>
      walk_at "goS"
      rw [beq_self_eq_true]
      exact Fin.of q
    case int x =>
      walk_at "goS"
      rw [beq_self_eq_true]
      exact Fin.of q
    case str y =>
      have hy : PyData.strOk y = true := by cases k <;> simpa [plainN] using hd
      walk_at "goS"
      refine go_eqS hy hy ?_
      rw [beq_self_eq_true]
      exact Fin.of q
    case list xs =>
      walk_at "goS"
      obtain _ | k := k
      · simp [plainN] at hd
      simp only [plainN, Bool.and_eq_true, decide_eq_true_eq] at hd
      refine go_ite (fun e => ?_) (fun e => by simp at e)
      walk_at "go"
      refine go_lcM' (fun _ => .bl true) (fun i d KY KN hd2 hY => ?_) ?_
      · obtain ⟨x, y, h1, h2, rfl⟩ := zipD_get hd2
        rw [h1] at h2
        cases h2
        walk_at "go"
        exact ⟨x, rfl, plains_get hd.2 h1, hY⟩
      walk_at "go"
      refine go_all rfl rfl (bools_tt _) ?_
      rw [show ((zipD xs xs).map fun _ => true).all _root_.id = true by simp]
      exact Fin.of q
    case tup xs =>
      walk_at "goS"
      obtain _ | k := k
      · simp [plainN] at hd
      simp only [plainN, Bool.and_eq_true, decide_eq_true_eq] at hd
      refine go_ite (fun e => ?_) (fun e => by simp at e)
      walk_at "go"
      refine go_lcM' (fun _ => .bl true) (fun i d KY KN hd2 hY => ?_) ?_
      · obtain ⟨x, y, h1, h2, rfl⟩ := zipD_get hd2
        rw [h1] at h2
        cases h2
        walk_at "go"
        exact ⟨x, rfl, plains_get hd.2 h1, hY⟩
      walk_at "go"
      refine go_all rfl rfl (bools_tt _) ?_
      rw [show ((zipD xs xs).map fun _ => true).all _root_.id = true by simp]
      exact Fin.of q)) only [↓hid_eq]
end
end L29

set_option Elab.async false
set_option linter.all false
set_option maxRecDepth 100000
set_option maxHeartbeats 4000000
set_option synthInstance.maxHeartbeats 400000
set_option synthInstance.maxSize 2000
namespace L29
open PySem PySem.Spec PyProof.Rows L2 DL
def sp__law_row_so (a : Ad) : aSp := fun ds M Q => ∃ b k ns q, ds = [.ref b, rwD a k ns q, grD a k ns, .list (dS (lettersOf k ns)), dP q] ∧ GoodG k ns ∧ PathOk (lettersOf k ns).length q ∧ Bag M b ∧ ∀ c, GoodBag c → Q (.bl true) (mupd M b c)
def sp__law_alike (a : Ad) : aSp := fun ds M Q => ∃ k ns p k' ns' p' due, ds = [rwD a k ns p, rwD a k' ns' p', .bl due] ∧ GoodG k ns ∧ PathOk (lettersOf k ns).length p ∧ GoodG k' ns' ∧ PathOk (lettersOf k' ns').length p' ∧ due = (gtext k ns == gtext k' ns' && rtext (lettersOf k ns) p == rtext (lettersOf k' ns') p') ∧ Q (.bl true) M
theorem beq_comm' (x y : Str) : (x == y) = (y == x) := Bool.eq_iff_iff.mpr ⟨fun h => beq_iff_eq.mpr (beq_iff_eq.mp h).symm, fun h => beq_iff_eq.mpr (beq_iff_eq.mp h).symm⟩
section
variable {a : Ad} {K : PySem.W.Frag}
theorem row_eq {M : Mp} {Q : QD} {k k' : Str} {ns ns' : List Str} {p p' : Path} (g : GoodG k ns) (hp : PathOk (lettersOf k ns).length p) (g' : GoodG k' ns') (hp' : PathOk (lettersOf k' ns').length p')
    (q : Q (.bl (gtext k ns == gtext k' ns' && rtext (lettersOf k ns) p == rtext (lettersOf k' ns') p')) M) : fEqL K a.C_Row 2 (sp_Row___eq__ a) (rwD a k ns p) (rwD a k' ns' p') M Q :=
  go_eqL rfl nf_self rfl ⟨k, ns, p, _, rfl, g, hp, .inl ⟨k', ns', p', rfl, g', hp', _, rfl, q⟩⟩
theorem row_ne {M : Mp} {Q : QD} {k k' : Str} {ns ns' : List Str} {p p' : Path} (g : GoodG k ns) (hp : PathOk (lettersOf k ns).length p) (g' : GoodG k' ns') (hp' : PathOk (lettersOf k' ns').length p')
    (q : Q (.bl (!(gtext k ns == gtext k' ns' && rtext (lettersOf k ns) p == rtext (lettersOf k' ns') p'))) M) : fNeL K a.C_Row 2 (sp_Row___eq__ a) (rwD a k ns p) (rwD a k' ns' p') M Q :=
  go_neL rfl nf_self rfl ⟨k, ns, p, _, rfl, g, hp, .inl ⟨k', ns', p', rfl, g', hp', _, rfl, q⟩⟩
end
theorem plains_dN (k : Nat) : ∀ ls : List Nat, plainsN k (dN ls) = true
  | [] => by simp [plainsN]
  | x :: ls => by
    have ih := plains_dN k ls
    have e : plainN k (.int (x : Int)) = true := by cases k <;> rfl
    show (plainN k (.int (x : Int)) && plainsN k (dN ls)) = true
    rw [e, ih]; rfl
theorem plain_str {k : Nat} {s : Str} (h : PyData.strOk s = true) : plainN k (.str s) = true := by cases k <;> exact h
theorem plain_tup {k : Nat} {ls : List Nat} (h : ls.length ≤ 1000000) : plainN (k + 1) (.tup (dN ls)) = true := by
  simp only [plainN, plains_dN, Bool.and_true, decide_eq_true_eq, length_dN]; exact h
theorem plain_lst {k : Nat} {ls : List Nat} (h : ls.length ≤ 1000000) : plainN (k + 1) (.list (dN ls)) = true := by
  simp only [plainN, plains_dN, Bool.and_true, decide_eq_true_eq, length_dN]; exact h
theorem plains_cons {k : Nat} {d : D} {ds : List D} (h : plainN k d = true) (h' : plainsN k ds = true) : plainsN k (d :: ds) = true := by
  show (plainN k d && plainsN k ds) = true
  rw [h, h']; rfl
theorem plains_nil {k : Nat} : plainsN k [] = true := by simp [plainsN]
theorem plain_of {k : Nat} {ds : List D} (h : ds.length ≤ 1000000) (h' : plainsN k ds = true) : plainN (k + 1) (.list ds) = true := by
  simp only [plainN, h', Bool.and_true, decide_eq_true_eq]; exact h
theorem rtext_low {k : Str} {ns : List Str} (g : GoodG k ns) {p : Path} (hp : PathOk (lettersOf k ns).length p) : ∀ x ∈ tl (rtext (lettersOf k ns) p), x < 1000 := fun x hx => by
  unfold rtext at hx
  rw [tl_joinX] at hx
  rcases joinL_mem hx with z | ⟨t, ht, z⟩
  · rw [tl_space] at z; simp at z; omega
  · obtain ⟨s, hs, rfl⟩ := List.mem_map.mp ht
    unfold rparts at hs
    rcases List.mem_append.mp hs with hs | hs
    · rcases List.mem_append.mp hs with hs | hs
      · obtain ⟨y, hy, rfl⟩ := List.mem_map.mp hs
        exact let_low g (sg_mem (hp.lt1 y hy)) x z
      · rcases List.mem_singleton.mp hs with rfl
        rw [tl_open] at z; simp at z; omega
    · rcases List.mem_append.mp hs with hs | hs
      · obtain ⟨y, hy, rfl⟩ := List.mem_map.mp hs
        exact let_low g (sg_mem (hp.lt2 y hy)) x z
      · rcases List.mem_singleton.mp hs with rfl
        rw [tl_close] at z; simp at z; omega
theorem repr_ok {k : Str} {ns : List Str} (g : GoodG k ns) {p : Path} (hp : PathOk (lettersOf k ns).length p) : PyData.strOk (("Row(" : Str) ++ rtext (lettersOf k ns) p ++ ")") = true := strOk_of fun x hx => by
  rw [tl_app, tl_app] at hx
  have e1 : ∀ y ∈ tl ("Row(" : Str), y < 1000 := by decide +kernel
  have e2 : ∀ y ∈ tl (")" : Str), y < 1000 := by decide +kernel
  rcases List.mem_append.mp hx with hx | hx
  · rcases List.mem_append.mp hx with hx | hx
    · exact e1 x hx
    · exact rtext_low g hp x hx
  · exact e2 x hx
section
variable {a : Ad} {K : PySem.W.Frag}
theorem gr_ne {M : Mp} {Q : QD} {k : Str} {ns : List Str} (g : GoodG k ns) (q : Q (.bl false) M) : fNeL K a.C_Ground 2 (sp_Ground___eq__ a) (grD a k ns) (grD a k ns) M Q :=
  go_neL rfl nf_self rfl ⟨k, ns, _, rfl, g, .inl ⟨k, ns, rfl, g, _, rfl, by rw [beq_self_eq_true]; exact q⟩⟩
theorem wd_eq {M : Mp} {Q : QD} {k : Str} {ns : List Str} {ls : List Nat} (g : GoodG k ns) (hl : ls.length ≤ 1000) (q : Q (.bl true) M) : fEqL K a.C_Word 2 (sp_Word___eq__ a) (wdD a k ns ls) (wdD a k ns ls) M Q :=
  go_eqL rfl nf_self rfl ⟨k, ns, ls, _, rfl, g, hl, .inl ⟨k, ns, ls, rfl, g, hl, _, rfl, by simpa using q⟩⟩
end
section
variable {P : Program} {w : World} {K : PySem.W.Frag} {mg : Str → Option Value} {base : Heap} {a : Ad}
theorem ok__law_alike (T : TX w K mg a) : FnOk P w K mg base CX0 3 a.f__law_alike a.fd__law_alike ["one_row", "two_row", "due"] (lift K 3 (sp__law_alike a)) := by
  refine hid_of ?_; simp (discharger := (with_unfolding_all
    refine okD (k := 2) T.fn__law_alike sc__law_alike rfl fun cdv A outer s H E hr => ⟨_, _, (dss_cons (ds_if (DW.dt (dw_or (dt_cmp (op_neD hr.units) s2_ne (de_cmp (op_eqL T.me_Row___eq__ (ok_Row___eq__ T) (hr.mono (by decide)) T.bd_Row___eq__ pass0) s2_eqL (dv 0) (dv 1) (nomark _)) (dv 2) (nomark _)) (dw_or1 (dt_cmp (op_neD hr.units) s2_ne (de_cmp (op_eqL T.me_Row___eq__ (ok_Row___eq__ T) (hr.mono (by decide)) T.bd_Row___eq__ pass0) s2_eqL (dv 1) (dv 0) (nomark _)) (dv 2) (nomark _))))) (dss_one (ds_ret de_bl)) dss_nil)
        (dss_one (ds_ret (de_and (de_cmp (op_neD hr.units) s2_ne (de_cmp (op_neL T.me_Row___eq__ T.ne_Row T.oc_Row.hm (ok_Row___eq__ T) (hr.mono (by decide)) T.bd_Row___eq__ pass0) s2_neL (dv 0) (dv 1) (nomark _)) (dv 2) (nomark _)) (de_one (de_cmp (op_neD hr.units) s2_ne (de_cmp (op_neL T.me_Row___eq__ T.ne_Row T.oc_Row.hm (ok_Row___eq__ T) (hr.mono (by decide)) T.bd_Row___eq__ pass0) s2_neL (dv 1) (dv 0) (nomark _)) (dv 2) (nomark _))))))), fun ds M Q hl h => ?_⟩
    obtain ⟨k, ns, p, k', ns', p', due, rfl, g, hp, g', hp', e, q⟩ := h
    have e' : due = (gtext k' ns' == gtext k ns && rtext (lettersOf k' ns') p' == rtext (lettersOf k ns) p) := by rw [e, beq_comm', beq_comm' (rtext _ _)]
    walk_at "start"
    walk_at "goS"
    refine row_eq g hp g' hp' ?_
    rw [← e]
    walk_at "goS"
    refine go_iteF (by simp) ?_
    walk_at "goS"
    refine row_eq g' hp' g hp ?_
    rw [← e']
    walk_at "goS"
    refine go_iteF (by simp) ?_
    walk_at "goS"
    refine row_ne g hp g' hp' ?_
    rw [← e]
    walk_at "goS"
    have ed : (!(!due) == due) = true := by cases due <;> rfl
    refine go_iteT ed ?_
    walk_at "goS"
    refine row_ne g' hp' g hp ?_
    rw [← e']
    walk_at "goS"
    rw [ed]
    exact Fin.of q)) only [↓hid_eq]
theorem ok__law_row_so (T : TX w K mg a) : FnOk P w K mg base CX0 10 a.f__law_row_so a.fd__law_row_so ["bag", "told", "gr", "signs", "due"] (lift K 5 (sp__law_row_so a)) := by
  refine hid_of ?_; simp (discharger := (with_unfolding_all
    refine okD (k := 9) T.fn__law_row_so sc__law_row_so rfl fun cdv A outer s H E hr => ⟨_, _, (dss_cons (ds_set (j := 5) sc__law_row_so.nd rfl (by first | exact .inl rfl | exact .inr rfl) (de_call (ok__law_text T) (hr.mono (by decide)) (by rfl) T.mg__law_text T.kp__law_text T.bd__law_text pass0 (da_cons (dv 3) (da_cons (dv 4) da_nil))))
        (dss_cons (ds_set (j := 6) sc__law_row_so.nd rfl (by first | exact .inl rfl | exact .inr rfl) (de_lst (da_cons (dv 5) (da_cons (de_callTy call_tuple_of sl_tuple (by rfl) T.b_tuple (by decide +kernel) (da_cons (de_ix (hu_of hr) (dv 4) de_int (fun _ _ => rfl)) da_nil)) (da_cons (de_callTy call_tuple_of sl_tuple (by rfl) T.b_tuple (by decide +kernel) (da_cons (de_ix (hu_of hr) (dv 4) de_int (fun _ _ => rfl)) da_nil)) (da_cons (de_call (ok__law_item_text T) (hr.mono (by decide)) (by rfl) T.mg__law_item_text T.kp__law_item_text T.bd__law_item_text pass0 (da_cons (dv 3) (da_cons (de_ix (hu_of hr) (dv 4) de_int (fun _ _ => rfl)) da_nil))) (da_cons (de_call (ok__law_item_text T) (hr.mono (by decide)) (by rfl) T.mg__law_item_text T.kp__law_item_text T.bd__law_item_text pass0 (da_cons (dv 3) (da_cons (de_ix (hu_of hr) (dv 4) de_int (fun _ _ => rfl)) da_nil))) da_nil)))))))
        (dss_cons (ds_set (j := 7) sc__law_row_so.nd rfl (by first | exact .inl rfl | exact .inr rfl) (de_lst (da_cons (de_fld (dv 1)) (da_cons (de_fld (de_fld (dv 1))) (da_cons (de_fld (de_fld (dv 1))) (da_cons (de_fld (de_fld (dv 1))) (da_cons (de_fld (de_fld (dv 1))) da_nil)))))))
        (dss_cons (ds_if (dt_not (dt_tru (de_call (ok__law_like T 4) (hr.mono (by decide)) (by rfl) T.mg__law_like T.kp__law_like T.bd__law_like pass0 (da_cons (de_add (dv 7) (de_lst (da_cons (de_callB (call_reprO T.me_Row___repr__ (ok_Row___repr__ T) (hr.mono (by decide)) T.bd_Row___repr__ pass0) sl_reprO (by rfl) T.b_repr (by decide +kernel) (da_cons (dv 1) da_nil)) da_nil))) (da_cons (de_add (dv 6) (de_lst (da_cons (de_add (de_add de_str (dv 5)) de_str) da_nil))) da_nil))))) (dss_one (ds_ret de_bl)) dss_nil)
        (dss_cons (ds_if (DW.dt (dw_or (dt_not (dt_tru (de_callB call_isi sl_isiW (by rfl) T.b_isinstance (by decide +kernel) (da_cons (de_fld (dv 1)) (da_cons (de_globC (by rfl) T.mg_Word) da_nil))))) (dw_or1 (dt_not (dt_tru (de_callB call_isi sl_isiW (by rfl) T.b_isinstance (by decide +kernel) (da_cons (de_fld (dv 1)) (da_cons (de_globC (by rfl) T.mg_Word) da_nil)))))))) (dss_one (ds_ret de_bl)) dss_nil)
        (dss_cons (ds_if (DW.dt (dw_or (dt_cmp (op_neL T.me_Ground___eq__ T.ne_Ground T.oc_Ground.hm (ok_Ground___eq__ T) (hr.mono (by decide)) T.bd_Ground___eq__ pass0) s2_neL (de_fld (dv 1)) (dv 2) (nomark _)) (dw_or (dt_cmp (op_neL T.me_Ground___eq__ T.ne_Ground T.oc_Ground.hm (ok_Ground___eq__ T) (hr.mono (by decide)) T.bd_Ground___eq__ pass0) s2_neL (de_fld (de_fld (dv 1))) (dv 2) (nomark _)) (dw_or1 (dt_cmp (op_neL T.me_Ground___eq__ T.ne_Ground T.oc_Ground.hm (ok_Ground___eq__ T) (hr.mono (by decide)) T.bd_Ground___eq__ pass0) s2_neL (de_fld (de_fld (dv 1))) (dv 2) (nomark _)))))) (dss_one (ds_ret de_bl)) dss_nil)
        (dss_cons (ds_for (di_seq (de_lst (da_cons de_int (da_cons de_int (da_cons (de_call (ok__law_draw T) (hr.mono (by decide)) (by rfl) T.mg__law_draw T.kp__law_draw T.bd__law_draw pass0 (da_cons (dv 0) (da_cons de_int da_nil))) (da_cons (de_call (ok__law_draw T) (hr.mono (by decide)) (by rfl) T.mg__law_draw T.kp__law_draw T.bd__law_draw pass0 (da_cons (dv 0) (da_cons de_int da_nil))) (da_cons de_int da_nil))))))) (dg_name (j := 8) sc__law_row_so.nd rfl (by first | exact .inl rfl | exact .inr rfl)) (dss_one (ds_if (DW.dt (dw_or (dt_not (dt_tru (de_call (ok__law_like T 4) (hr.mono (by decide)) (by rfl) T.mg__law_like T.kp__law_like T.bd__law_like pass0 (da_cons (de_meth (dv 1) T.cl_Row T.me_Row_letter (ok_Row_letter T) (hr.mono (by decide)) T.bd_Row_letter pass0 (da_cons (dv 8) da_nil)) (da_cons (de_call (ok__law_at T) (hr.mono (by decide)) (by rfl) T.mg__law_at T.kp__law_at T.bd__law_at pass0 (da_cons (dv 4) (da_cons (dv 8) da_nil))) da_nil))))) (dw_or1 (dt_cmp (op_neD hr.units) s2_ne (de_methK (kr_Row_letter_k_1_place) (dv 1) T.cl_Row T.me_Row_letter (ok_Row_letter T) (hr.mono (by decide)) T.kb_Row_letter_k_1_place pass0 (dk_cons (dv 8) dk_nil)) (de_call (ok__law_at T) (hr.mono (by decide)) (by rfl) T.mg__law_at T.kp__law_at T.bd__law_at pass0 (da_cons (dv 4) (da_cons (dv 8) da_nil))) (nomark _))))) (dss_one (ds_ret de_bl)) dss_nil)) PassesOwn.never)
        (dss_cons (ds_set (j := 9) sc__law_row_so.nd rfl (by first | exact .inl rfl | exact .inr rfl) (de_call (ok__law_of T) (hr.mono (by decide)) (by rfl) T.mg__law_of T.kp__law_of T.bd__law_of pass0 (da_cons (dv 0) (da_cons (de_lst (da_cons de_int (da_cons de_int (da_cons de_int (da_cons (de_call (ok__law_draw T) (hr.mono (by decide)) (by rfl) T.mg__law_draw T.kp__law_draw T.bd__law_draw pass0 (da_cons (dv 0) (da_cons de_int da_nil))) (da_cons (de_call (ok__law_draw T) (hr.mono (by decide)) (by rfl) T.mg__law_draw T.kp__law_draw T.bd__law_draw pass0 (da_cons (dv 0) (da_cons de_int da_nil))) da_nil)))))) da_nil))))
        (dss_cons (ds_setLc (j := 10) (own := [("spot", 8)]) rfl sc__law_row_so.nd rfl rfl (sw_true rfl rfl rfl (by decide +kernel)) (di_range1 (by rfl) T.b_range (da_cons (dv 9) da_nil)) (blkOk_by (by rfl)) (fun _ _ _ _ _ => (dg_name (j := 8) sc__law_row_so.nd rfl (by first | exact .inl rfl | exact .inr rfl))) (fun _ _ _ _ _ => dts_nil) (fun _ _ _ _ _ => (de_call (ok__law_at T) (hr.mono (by decide)) (by rfl) T.mg__law_at T.kp__law_at T.bd__law_at pass0 (da_cons (dv 4) (da_cons (dv 8) da_nil)))) om_name)
        (dss_cons (ds_set (j := 11) sc__law_row_so.nd rfl (by first | exact .inl rfl | exact .inr rfl) (de_meth (dv 1) T.cl_Row T.me_Row_first (ok_Row_first T) (hr.mono (by decide)) T.bd_Row_first pass0 (da_cons (dv 9) da_nil)))
        (dss_cons (ds_if (DW.dt (dw_or (dt_not (dt_tru (de_callB call_isi sl_isiW (by rfl) T.b_isinstance (by decide +kernel) (da_cons (dv 11) (da_cons (de_globC (by rfl) T.mg_Word) da_nil))))) (dw_or1 (dt_not (dt_tru (de_call (ok__law_like T 4) (hr.mono (by decide)) (by rfl) T.mg__law_like T.kp__law_like T.bd__law_like pass0 (da_cons (de_lst (da_cons (de_fld (dv 11)) (da_cons (de_fld (dv 11)) da_nil))) (da_cons (de_lst (da_cons (de_callTy call_tuple_of sl_tuple (by rfl) T.b_tuple (by decide +kernel) (da_cons (dv 10) da_nil)) (da_cons (de_call (ok__law_item_text T) (hr.mono (by decide)) (by rfl) T.mg__law_item_text T.kp__law_item_text T.bd__law_item_text pass0 (da_cons (dv 3) (da_cons (dv 10) da_nil))) da_nil))) da_nil)))))))) (dss_one (ds_ret de_bl)) dss_nil)
        (dss_cons (ds_if (DW.dt (dw_or (dt_not (dt_tru (de_call (ok__law_like T 4) (hr.mono (by decide)) (by rfl) T.mg__law_like T.kp__law_like T.bd__law_like pass0 (da_cons (de_listG (dv 1) T.cl_Row T.me_Row_upto (okg_Row_upto T) (hr.mono (by decide)) T.bd_Row_upto (da_cons (dv 9) da_nil) (by rfl) T.b_list) (da_cons (dv 10) da_nil))))) (dw_or1 (dt_cmp (op_neD hr.units) s2_ne (de_listGK (kr_Row_upto_k_1_count) (dv 1) T.cl_Row T.me_Row_upto (okg_Row_upto T) (hr.mono (by decide)) T.kb_Row_upto_k_1_count (dk_cons (dv 9) dk_nil) (by rfl) T.b_list) (dv 10) (nomark _))))) (dss_one (ds_ret de_bl)) dss_nil)
        (dss_one (ds_ret (de_cmp (op_eqL T.me_Word___eq__ (ok_Word___eq__ T) (hr.mono (by decide)) T.bd_Word___eq__ pass0) s2_eqL (de_methK (kr_Row_first_k_1_count) (dv 1) T.cl_Row T.me_Row_first (ok_Row_first T) (hr.mono (by decide)) T.kb_Row_first_k_1_count pass0 (dk_cons (dv 9) dk_nil)) (dv 11) (nomark _)))))))))))))))), fun ds M Q hl h => ?_⟩
    obtain ⟨b, k, ns, p, rfl, g, hp, ⟨c0, hb, hc0⟩, q⟩ := h
    have h1 := hp.l1
    have h2 := hp.l2
    have hz := rtext_len g hp
    have lA : ("Row(" : Str).length + (rtext (lettersOf k ns) p).length ≤ 1000000 := by
      have : ("Row(" : Str).length = 4 := by decide +kernel
      omega
    have lB : (("Row(" : Str) ++ rtext (lettersOf k ns) p).length + (")" : Str).length ≤ 1000000 := by
      have : ("Row(" : Str).length = 4 := by decide +kernel
      have : (")" : Str).length = 1 := by decide +kernel
      rw [tl_len (_ ++ _), tl_app, List.length_append, ← tl_len, ← tl_len]
      omega
    have hcR := T.cl_Row
    have hcW := T.cl_Word
    have hf1 := T.na_Row_text
    have hf2 := T.na_Row_beginning
    have hf3 := T.na_Row_period
    have hf4 := T.na_Row_ground
    have hf5 := T.na_Word_letters
    have hf6 := T.na_Word_text
    have hf7 := T.na_Word_ground
    walk_at "start"
    walk_at "goS"
    refine ⟨k, ns, p, rfl, g, hp, ?_⟩
    walk_at "goS"
    refine ⟨k, ns, p.1, rfl, g, hp.lt1, by omega, ?_⟩
    walk_at "goS"
    refine ⟨k, ns, p.2, rfl, g, hp.lt2, by omega, ?_⟩
    unfold rwD wdD
    walk_at "goS"
    refine ⟨_, rfl, rfl, k, ns, p, rfl, g, hp, _, rfl, ?_⟩
    walk_at "goS"
    refine ⟨_, rfl, plain_of (by simp) (plains_cons (plain_str (rtext_ok g hp)) (plains_cons (plain_tup (by omega)) (plains_cons (plain_tup (by omega)) (plains_cons (plain_str (itext_ok g hp.lt1)) (plains_cons (plain_str (itext_ok g hp.lt2)) (plains_cons (plain_str (repr_ok g hp)) plains_nil)))))), ?_⟩
    walk_at "goS"
    refine go_isiS T.oc_Word ?_
    walk_at "goS"
    refine go_isiS T.oc_Word ?_
    walk_at "goS"
    refine gr_ne g ?_
    walk_at "goS"
    refine gr_ne g ?_
    walk_at "goS"
    refine gr_ne g ?_
    walk_at "goS"
    refine ⟨b, 60, rfl, by decide, by decide, ⟨c0, hb, hc0⟩, fun i1 c1 i10 i11 hc1 => ?_⟩
    walk_at "goS"
    refine ⟨b, 1001, rfl, by decide, by decide, ⟨c1, mupd_same, hc1⟩, fun i2 c2 i20 i21 hc2 => ?_⟩
    rw [mupd_mupd]
    walk_at "goS"
    refine go_forI (fun j G' M' => ∃ w6 w7 x8, G' = [some (.ref b), some (rwD a k ns p), some (grD a k ns), some (.list (dS (lettersOf k ns))), some (dP p), some (.str (rtext (lettersOf k ns) p)), w6, w7, x8, none, none, none] ∧ M' = mupd M b c2)
      ⟨_, _, _, rfl, rfl⟩ (fun j d G' M' nx' hd hI hn => ?_) (fun G' M' hI => ?_)
    · obtain ⟨w6, w7, x8, rfl, rfl⟩ := hI
      obtain ⟨n, hn0, rfl⟩ : ∃ n : Nat, n ≤ 1000 ∧ d = .int (n : Int) := by
        have := List.mem_of_getElem? hd
        simp only [List.mem_cons, List.not_mem_nil, or_false] at this
        rcases this with rfl | rfl | rfl | rfl | rfl
        · exact ⟨0, by decide, rfl⟩
        · exact ⟨1, by decide, rfl⟩
        · exact ⟨i1.toNat, by omega, by rw [Int.toNat_of_nonneg i10]⟩
        · exact ⟨i2.toNat, by omega, by rw [Int.toNat_of_nonneg i20]⟩
        · exact ⟨1000, by decide, rfl⟩
      unfold rwD wdD
      walk_at "goS"
      refine ⟨k, ns, p, n, rfl, hp, by omega, ?_⟩
      walk_at "goS"
      refine ⟨p, n, rfl, hp.ne, by omega, ?_⟩
      walk_at "goS"
      refine ⟨_, rfl, rfl, ?_⟩
      walk_at "goS"
      refine ⟨k, ns, p, n, rfl, hp, by omega, ?_⟩
      walk_at "goS"
      refine ⟨p, n, rfl, hp.ne, by omega, ?_⟩
      walk_at "goS"
      refine go_iteF (by simp) ?_
      walk_at "goS"
      exact hn _ _ ⟨_, _, _, rfl, rfl⟩
    obtain ⟨w6, w7, x8, rfl, rfl⟩ := hI
    walk_at "goS"
    refine ⟨b, 70, rfl, by decide, by decide, ⟨c2, mupd_same, hc2⟩, fun i3 c3 i30 i31 hc3 => ?_⟩
    rw [mupd_mupd]
    walk_at "goS"
    refine ⟨b, 30, rfl, by decide, by decide, ⟨c3, mupd_same, hc3⟩, fun i4 c4 i40 i41 hc4 => ?_⟩
    rw [mupd_mupd]
    walk_at "goS"
    refine ⟨b, _, rfl, by simp, by simp, ⟨c4, mupd_same, hc4⟩, fun d c5 hd hc5 => ?_⟩
    rw [mupd_mupd]
    obtain ⟨n, hn0, rfl⟩ : ∃ n : Nat, n ≤ 70 ∧ d = .int (n : Int) := by
      simp only [List.mem_cons, List.not_mem_nil, or_false] at hd
      rcases hd with rfl | rfl | rfl | rfl | rfl
      · exact ⟨0, by decide, rfl⟩
      · exact ⟨1, by decide, rfl⟩
      · exact ⟨2, by decide, rfl⟩
      · exact ⟨i3.toNat, by omega, by rw [Int.toNat_of_nonneg i30]⟩
      · exact ⟨i4.toNat, by omega, by rw [Int.toNat_of_nonneg i40]⟩
    walk_at "goS"
    rw [Int.toNat_natCast]
    unfold rng
    refine go_lcX (F := fun j : Nat => .int ((seqAt p j : Nat) : Int)) (fun j KY KN hj hY => ?_) ?_
    · have hj := List.mem_range.mp hj
      walk_at "goS"
      refine ⟨p, j, by simp, hp.ne, by omega, ?_⟩
      exact hY
    have epf : (List.range n).map (fun j : Nat => D.int ((seqAt p j : Nat) : Int)) = dN (pref p n) := by
      show _ = List.map _ (List.map _ _)
      rw [List.map_map]; rfl
    have hpl : (pref p n).length = n := by unfold pref; simp
    have hpm : ∀ x ∈ pref p n, x < (lettersOf k ns).length := fun x hx => by
      obtain ⟨j, _, rfl⟩ := List.mem_map.mp hx
      exact seq_lt hp j
    rw [epf]
    unfold rwD wdD
    walk_at "goS"
    refine ⟨k, ns, p, n, rfl, g, hp, by omega, ?_⟩
    unfold wdD
    walk_at "goS"
    refine go_isiS T.oc_Word ?_
    walk_at "goS"
    refine ⟨k, ns, _, rfl, g, hpm, by omega, ?_⟩
    walk_at "goS"
    refine ⟨_, rfl, plain_of (by simp) (plains_cons (plain_tup (by omega)) (plains_cons (plain_str (itext_ok g hpm)) plains_nil)), ?_⟩
    walk_at "goS"
    refine ⟨k, ns, p, n, rfl, hp, by omega, ?_⟩
    walk_at "goS"
    refine ⟨_, rfl, plain_lst (by omega), ?_⟩
    walk_at "goS"
    refine ⟨k, ns, p, n, rfl, hp, by omega, ?_⟩
    walk_at "goS"
    refine go_neLN ?_
    refine go_ktest ?_
    refine go_iteF (by simp) ?_
    walk_at "goS"
    refine ⟨k, ns, p, n, rfl, g, hp, by omega, ?_⟩
    walk_at "goS"
    refine wd_eq g (by omega) ?_
    exact Fin.of (q c5 hc5))) only [↓hid_eq]
end
end L29

set_option Elab.async false
set_option linter.all false
set_option maxRecDepth 100000
set_option maxHeartbeats 4000000
set_option synthInstance.maxHeartbeats 400000
set_option synthInstance.maxSize 2000
namespace L29
open PySem PySem.Spec PyProof.Rows L2 DL
def sp_law : aSp := fun ds M Q => ∃ ns : List Int, ds = [.rol (ns.map .int)] ∧ ns.length ≤ 63 ∧ Q (.bl true) M
theorem isl_eq {x y p q : Path} (hx : IsL x p) (hy : IsL y q) (h : SameSeq q p) : y = x := least_uniq hy.1 hx.1 (hy.2.trans (h.trans hx.2.symm))
theorem isl_self {x p : Path} (hx : IsL x p) : IsL x x := ⟨hx.1, .rfl' x⟩
theorem evs_map_len {k : Str} {ns ms : List Str} (g : GoodG k ns) (h : GoodG k ms) (e : ns.length = ms.length) : (lettersOf k ns).length = (lettersOf k ms).length := by
  unfold lettersOf
  split
  · exact e
  · rw [List.length_map, List.length_map]; unfold evSets; rw [evs_len, evs_len, e]
theorem sg_app {L R : List Str} {x : Nat} (h : x < L.length) : sg (L ++ R) x = sg L x := by
  unfold sg
  rw [List.getD_eq_getElem?_getD, List.getElem?_append_left h, ← List.getD_eq_getElem?_getD]
theorem rtext_app {L R : List Str} {p : Path} (h : PathOk L.length p) : rtext (L ++ R) p = rtext L p := by
  unfold rtext rparts
  rw [List.map_congr_left fun x hx => sg_app (h.lt1 x hx), List.map_congr_left fun x hx => sg_app (h.lt2 x hx)]
theorem letters_app (k : Str) (ns ms : List Str) : ∃ R, lettersOf k (ns ++ ms) = lettersOf k ns ++ R := by
  unfold lettersOf
  split
  · exact ⟨ms, rfl⟩
  · have go : ∀ (ms : List Str) (w : List (List Str)), ∃ R, ms.foldl (fun w e => w ++ w.map (· ++ [e])) w = w ++ R := by
      intro ms
      induction ms with
      | nil => exact fun w => ⟨[], by simp⟩
      | cons m ms ih =>
        intro w
        obtain ⟨R, hR⟩ := ih (w ++ w.map (· ++ [m]))
        exact ⟨w.map (· ++ [m]) ++ R, by rw [List.foldl_cons, hR, List.append_assoc]⟩
    obtain ⟨R, hR⟩ := go ms (evSets ns)
    refine ⟨R.map evName, ?_⟩
    have : evSets (ns ++ ms) = evSets ns ++ R := by
      rw [← hR]; unfold evSets; rw [List.foldl_append]
    rw [this, List.map_append]
theorem PathOk.more {n m : Nat} {p : Path} (h : PathOk n p) (e : n ≤ m) : PathOk m p := ⟨h.l1, h.ne, h.l2, fun x hx => Nat.lt_of_lt_of_le (h.lt1 x hx) e, fun x hx => Nat.lt_of_lt_of_le (h.lt2 x hx) e⟩
theorem sg_rev {L : List Str} {x : Nat} (h : x < L.length) : sg L.reverse (L.length - 1 - x) = sg L x := by
  have e1 := sg_at (L := L.reverse) (n := L.length - 1 - x) (by rw [List.length_reverse]; omega)
  rw [List.getElem?_reverse (by omega), show L.length - 1 - (L.length - 1 - x) = x by omega, sg_at h] at e1
  exact (Option.some.inj e1).symm
theorem rtext_rev {L : List Str} {p : Path} (h : PathOk L.length p) : rtext L.reverse (p.1.map (L.length - 1 - ·), p.2.map (L.length - 1 - ·)) = rtext L p := by
  have e : ∀ ls : List Nat, (∀ x ∈ ls, x < L.length) → (ls.map (L.length - 1 - ·)).map (sg L.reverse) = ls.map (sg L) := fun ls h => by
    rw [List.map_map]; exact List.map_congr_left fun x hx => sg_rev (h x hx)
  unfold rtext rparts
  rw [e _ h.lt1, e _ h.lt2]
theorem path_rev {n : Nat} {p : Path} (h : PathOk n p) (hn : 0 < n) : PathOk n (p.1.map (n - 1 - ·), p.2.map (n - 1 - ·)) :=
  ⟨by simpa using h.l1, by simpa using h.ne, by simpa using h.l2, fun x hx => by obtain ⟨y, _, rfl⟩ := List.mem_map.mp hx; omega, fun x hx => by obtain ⟨y, _, rfl⟩ := List.mem_map.mp hx; omega⟩
theorem GoodG.rev {k : Str} {ns : List Str} (g : GoodG k ns) : GoodG k ns.reverse := ⟨by rw [List.length_reverse]; exact g.kd, by rw [List.Nodup, List.pairwise_reverse]; exact g.nd.imp fun h => h.symm, fun n hn => g.ok n (List.mem_reverse.mp hn)⟩
theorem rev_ne {ns : List Str} (hn : ns.Nodup) (hl : 2 ≤ ns.length) : ns ≠ ns.reverse := fun e => by
  have h : ns[0]? = ns.reverse[0]? := congrArg (·[0]?) e
  rw [List.getElem?_reverse (by omega), List.getElem?_eq_getElem (by omega), List.getElem?_eq_getElem (by omega)] at h
  have := (List.getElem_inj hn).mp (Option.some.inj h)
  omega
theorem gtext_bne {k : Str} {ns ms : List Str} (g : GoodG k ns) (h : GoodG k ms) (e : ns ≠ ms) : (gtext k ns == gtext k ms) = false := beq_eq_false_iff_ne.mpr fun z => e (gtext_inj g h z)
theorem rtext_beq {k : Str} {ns : List Str} (g : GoodG k ns) {p q : Path} (hp : PathOk (lettersOf k ns).length p) (hq : PathOk (lettersOf k ns).length q) : (rtext (lettersOf k ns) p == rtext (lettersOf k ns) q) = decide (p = q) := by
  by_cases e : p = q
  · subst e; simp
  · rw [decide_eq_false e]
    exact beq_eq_false_iff_ne.mpr fun z => e (rtext_inj g hp hq z)
theorem go_eqP {M : Mp} {Q : QD} {p q : Path} (h : Q (.bl (decide (p = q))) M) : fEq (dP p) (dP q) M Q := by
  refine ⟨?_, ?_, ?_⟩
  · show eqOk 9 (dP p) = true
    simp only [eqOk, eqOks, eqOks_dN]; rfl
  · show eqOk 9 (dP q) = true
    simp only [eqOk, eqOks, eqOks_dN]; rfl
  · have e : eqv (snap M (dP p)) (snap M (dP q)) = decide (p = q) := by
      show PyData.eqv (toPy (dP p)) (toPy (dP q)) = _
      simp only [toPy, toPys, PyData.eqv, PyData.eqvAll, eqvN, Bool.and_true]
      obtain ⟨p1, p2⟩ := p
      obtain ⟨q1, q2⟩ := q
      simp [Bool.decide_and]
    rw [e]; exact h
theorem app_bad {k : Str} {ms os : List Str} (g : GoodG k ms) (go : GoodG k os) (hd : (ms ++ os).Nodup) (hlt : ms.length < (if k = "letters" then 6 else 3)) : ∃ o, os.take 1 = [o] ∧ GoodG k (ms ++ os.take 1) := by
  obtain ⟨o, r, rfl⟩ : ∃ o r, os = o :: r := by
    cases os with
    | nil => rcases go.kd with z | z <;> simp at z
    | cons o r => exact ⟨o, r, rfl⟩
  refine ⟨o, rfl, ?_, ?_, fun n hn => ?_⟩
  · rcases g.kd with ⟨z1, z2, z3⟩ | ⟨z1, z2, z3⟩
    · rw [if_pos z1] at hlt
      exact .inl ⟨z1, by simp; omega, by simp; omega⟩
    · rw [if_neg (by rw [z1]; decide +kernel)] at hlt
      exact .inr ⟨z1, by simp, by simp; omega⟩
  · show (ms ++ [o]).Nodup
    have := List.nodup_append.mp hd
    exact List.nodup_append.mpr ⟨this.1, by simp, fun a ha b hb => this.2.2 a ha b (by rcases List.mem_singleton.mp hb with rfl; simp)⟩
  · rcases List.mem_append.mp hn with hn | hn
    · exact g.ok n hn
    · exact go.ok n (List.mem_of_mem_take hn)
def MoreOk (k : Str) (ms os mo : List Str) : Prop := (k = "letters" ∧ ms.length < 6 ∧ mo = ms ++ os.take 1) ∨ (k = "letters" ∧ ms.length = 6 ∧ mo = ms.reverse) ∨ (k = "events" ∧ ms.length < 3 ∧ mo = ms ++ os.take 1) ∨ (k = "events" ∧ ms.length = 3)
theorem more_ok {k : Str} {ms os mo : List Str} (g : GoodG k ms) (go : GoodG k os) (hd : (ms ++ os).Nodup) {p : Path} (hp : PathOk (lettersOf k ms).length p) (hmo : MoreOk k ms os mo) : (k = "events" ∧ ms.length = 3) ∨ (∃ q, GoodG k mo ∧ PathOk (lettersOf k mo).length q ∧ rtext (lettersOf k ms) p = rtext (lettersOf k mo) q ∧ ms ≠ mo ∧ mo.length ≤ 6) := by
  have app : ms.length < (if k = "letters" then 6 else 3) → mo = ms ++ os.take 1 → ∃ q, GoodG k mo ∧ PathOk (lettersOf k mo).length q ∧ rtext (lettersOf k ms) p = rtext (lettersOf k mo) q ∧ ms ≠ mo ∧ mo.length ≤ 6 := fun hlt e => by
    obtain ⟨o, eo, gm⟩ := app_bad g go hd hlt
    subst e
    obtain ⟨R, hR⟩ := letters_app k ms (os.take 1)
    refine ⟨p, gm, ?_, ?_, fun z => ?_, ?_⟩
    · rw [hR]; exact hp.more (by rw [List.length_append]; omega)
    · rw [hR]; exact (rtext_app hp).symm
    · have := congrArg List.length z
      rw [eo] at this
      simp at this
    · rw [eo, List.length_append, List.length_singleton]
      split at hlt <;> omega
  rcases hmo with ⟨e, h, z⟩ | ⟨e, h, z⟩ | ⟨e, h, z⟩ | z
  · exact .inr (app (by rw [if_pos e]; exact h) z)
  · subst z
    have e1 : lettersOf k ms = ms := by unfold lettersOf; rw [if_pos e]
    have e2 : lettersOf k ms.reverse = ms.reverse := by unfold lettersOf; rw [if_pos e]
    rw [e1] at hp
    refine .inr ⟨(p.1.map (ms.length - 1 - ·), p.2.map (ms.length - 1 - ·)), g.rev, ?_, ?_, rev_ne g.nd (by omega), by rw [List.length_reverse]; omega⟩
    · rw [e2, List.length_reverse]; exact path_rev hp (by omega)
    · rw [e1, e2]; exact (rtext_rev hp).symm
  · exact .inr (app (by rw [if_neg (by rw [e]; decide +kernel)]; exact h) z)
  · exact .inl z
theorem fm_range : ∀ xs : List D, (List.range xs.length).filterMap (xs[·]?) = xs
  | [] => rfl
  | x :: xs => by
    rw [List.length_cons, List.range_succ_eq_map, List.filterMap_cons]
    simp only [List.getElem?_cons_zero, List.filterMap_map]
    congr 1
    exact fm_range xs
theorem rev_n : ∀ n, n ≤ 6 → stIx n none none (some (-1)) = (List.range n).reverse := fun n h => by
  have : n = 0 ∨ n = 1 ∨ n = 2 ∨ n = 3 ∨ n = 4 ∨ n = 5 ∨ n = 6 := by omega
  rcases this with rfl | rfl | rfl | rfl | rfl | rfl | rfl <;> decide +kernel
theorem pick_rev {xs : List D} (h : xs.length ≤ 6) : pickL xs none none (some (-1)) = xs.reverse := by
  unfold pickL
  rw [rev_n _ h, List.filterMap_reverse, fm_range]
theorem dS_rev (x : List Str) : (dS x).reverse = dS x.reverse := List.map_reverse.symm
theorem dS_take1 (x : List Str) : DL.cutD (dS x) none (some 1) = dS (x.take 1) := by
  rw [show (1 : Int) = ((1 : Nat) : Int) from rfl, cutD_take, ← List.map_take]
theorem apart_ne {ms os : List Str} (hd : (ms ++ os).Nodup) (h : 0 < ms.length) : ms ≠ os := fun e => by
  subst e
  have := List.nodup_append.mp hd
  obtain ⟨x, hx⟩ := List.exists_mem_of_ne_nil ms (List.length_pos_iff.mp h)
  exact this.2.2 x hx x hx rfl
theorem mdel_new {M : Mp} {x : Addr} {c : MC} (h : M x = none) : mdel (mupd M x c) x = M := by
  funext y
  unfold mdel mupd
  by_cases e : y = x
  · rw [if_pos e, e, h]
  · rw [if_neg e, if_neg e]
section
variable {a : Ad}
def grF (k : Str) (ms : List Str) : List (Str × D) := [("kind", .str k), ("text", .str (gtext k ms)), ("letters", .tup (dS (lettersOf k ms))), ("_names", .tup (dS ms)), ("_numbers", .dK (numK (lettersOf k ms)))]
def wdF (a : Ad) (k : Str) (ms : List Str) (ls : List Nat) : List (Str × D) := [("ground", grD a k ms), ("letters", .tup (dN ls)), ("text", .str (itext (lettersOf k ms) ls))]
def rwF (a : Ad) (k : Str) (ms : List Str) (p : Path) : List (Str × D) := [("ground", grD a k ms), ("beginning", wdD a k ms p.1), ("period", wdD a k ms p.2), ("text", .str (rtext (lettersOf k ms) p))]
theorem fold_gr {k : Str} {ms : List Str} : D.obj a.C_Ground (grF k ms) = grD a k ms := rfl
theorem fold_wd {k : Str} {ms : List Str} {ls : List Nat} : D.obj a.C_Word (wdF a k ms ls) = wdD a k ms ls := rfl
theorem fold_rw {k : Str} {ms : List Str} {p : Path} : D.obj a.C_Row (rwF a k ms p) = rwD a k ms p := rfl
variable {R : Addr → List (Str × D) → Mp → Prop}
theorem make_gr {M : Mp} {k : Str} {ms : List Str} (g : GoodG k ms) (q : ∀ x, M x = none → R x (grF k ms) (mupd M x (.ins a.C_Ground (grF k ms)))) : ∀ x, M x = none → sp_Ground___init__ a [.ref x, .str (gtext k ms)] (mupd M x (.ins a.C_Ground [])) fun r M2 => r = .non ∧ ∃ gs, M2 x = some (.ins a.C_Ground gs) ∧ R x gs M2 :=
  fun x hx => ⟨x, k, ms, rfl, g, mupd_same, rfl, _, mupd_same, by rw [mupd_mupd]; exact q x hx⟩
theorem make_rw {M : Mp} {k : Str} {ms : List Str} {p : Path} (g : GoodG k ms) (hp : PathOk (lettersOf k ms).length p) (q : ∀ x y, M x = none → IsL y p → R x (rwF a k ms y) (mupd M x (.ins a.C_Row (rwF a k ms y)))) : ∀ x, M x = none → sp_Row___init__ a [.ref x, grD a k ms, .str (rtext (lettersOf k ms) p)] (mupd M x (.ins a.C_Row [])) fun r M2 => r = .non ∧ ∃ gs, M2 x = some (.ins a.C_Row gs) ∧ R x gs M2 :=
  fun x hx => ⟨x, k, ms, p, rfl, g, hp, mupd_same, fun y hy => ⟨rfl, _, mupd_same, by rw [mupd_mupd]; exact q x y hx hy⟩⟩
theorem make_rw2 {M : Mp} {k : Str} {ms : List Str} {p : Path} {t : Str} (et : t = rtext (lettersOf k ms) p) (g : GoodG k ms) (hp : PathOk (lettersOf k ms).length p) (q : ∀ x y, M x = none → IsL y p → R x (rwF a k ms y) (mupd M x (.ins a.C_Row (rwF a k ms y)))) : ∀ x, M x = none → sp_Row___init__ a [.ref x, grD a k ms, .str t] (mupd M x (.ins a.C_Row [])) fun r M2 => r = .non ∧ ∃ gs, M2 x = some (.ins a.C_Row gs) ∧ R x gs M2 := by
  subst et
  exact make_rw g hp q
theorem make_wd {M : Mp} {k : Str} {ms : List Str} {ls : List Nat} (g : GoodG k ms) (hl : ∀ x ∈ ls, x < (lettersOf k ms).length) (h4 : ls.length ≤ 40) (q : ∀ x, M x = none → R x (wdF a k ms ls) (mupd M x (.ins a.C_Word (wdF a k ms ls)))) : ∀ x, M x = none → sp_Word___init__ a [.ref x, grD a k ms, .str (itext (lettersOf k ms) ls)] (mupd M x (.ins a.C_Word [])) fun r M2 => r = .non ∧ ∃ gs, M2 x = some (.ins a.C_Word gs) ∧ R x gs M2 :=
  fun x hx => ⟨x, k, ms, ls, rfl, g, hl, h4, mupd_same, rfl, _, mupd_same, by rw [mupd_mupd]; exact q x hx⟩
end
section
variable {P : Program} {w : World} {K : PySem.W.Frag} {mg : Str → Option Value} {base : Heap} {a : Ad}
theorem ok_law (T : TX w K mg a) : FnOk P w K mg base CX0 13 a.f_law a.fd_law ["script"] (lift K 1 sp_law) := by
  refine okD (k := 12) T.fn_law sc_law rfl fun cdv A outer s H E hr => ⟨_, _, (dss_cons (ds_set (j := 1) sc_law.nd rfl (by first | exact .inl rfl | exact .inr rfl) (de_call (ok__law_bag T) (hr.mono (by decide)) (by rfl) T.mg__law_bag T.kp__law_bag T.bd__law_bag pass0 (da_cons (dv 0) da_nil)))
      (dss_cons (ds_asg (de_call (ok__law_wide T) (hr.mono (by decide)) (by rfl) T.mg__law_wide T.kp__law_wide T.bd__law_wide pass0 (da_cons (dv 1) da_nil)) (dg_tup (dgs_cons (dg_name (j := 2) sc_law.nd rfl (by first | exact .inl rfl | exact .inr rfl)) (dgs_cons (dg_name (j := 3) sc_law.nd rfl (by first | exact .inl rfl | exact .inr rfl)) (dgs_cons (dg_name (j := 4) sc_law.nd rfl (by first | exact .inl rfl | exact .inr rfl)) (dgs_cons (dg_name (j := 5) sc_law.nd rfl (by first | exact .inl rfl | exact .inr rfl)) dgs_nil))))))
      (dss_cons (ds_set (j := 6) sc_law.nd rfl (by first | exact .inl rfl | exact .inr rfl) (de_callB call_lenA sl_len (by rfl) T.b_len (by decide +kernel) (da_cons (dv 4) da_nil)))
      (dss_cons (ds_par (i := 7) (j := 8) sc_law.nd rfl rfl (da_cons (de_make T.mk_Ground (ok_Ground___init__ T) (hr.mono (by decide)) (by rfl) T.mg_Ground T.bd_Ground___init__ pass0 (da_cons (dv 5) da_nil)) (da_cons (de_make T.mk_Ground (ok_Ground___init__ T) (hr.mono (by decide)) (by rfl) T.mg_Ground T.bd_Ground___init__ pass0 (da_cons (dv 5) da_nil)) da_nil)))
      (dss_cons (ds_set (j := 9) sc_law.nd rfl (by first | exact .inl rfl | exact .inr rfl) (de_call (ok__law_fresh T) (hr.mono (by decide)) (by rfl) T.mg__law_fresh T.kp__law_fresh T.bd__law_fresh pass0 (da_cons (dv 1) (da_cons (de_callB call_lenA sl_len (by rfl) T.b_len (by decide +kernel) (da_cons (dv 3) da_nil)) (da_cons (dv 3) da_nil)))))
      (dss_cons (ds_set (j := 10) sc_law.nd rfl (by first | exact .inl rfl | exact .inr rfl) (de_make T.mk_Ground (ok_Ground___init__ T) (hr.mono (by decide)) (by rfl) T.mg_Ground T.bd_Ground___init__ pass0 (da_cons (de_bm PySem.F.plainAttrs_str PySem.F.slot_str_join PySem.F.type_str_join mt_join sm_join (.inr (.inr (.inl rfl))) de_str (da_cons (de_add (de_lst (da_cons (dv 2) da_nil)) (dv 9)) da_nil)) da_nil)))
      (dss_cons (ds_set (j := 11) sc_law.nd rfl (by first | exact .inl rfl | exact .inr rfl) (de_call (ok__law_path T) (hr.mono (by decide)) (by rfl) T.mg__law_path T.kp__law_path T.bd__law_path pass0 (da_cons (dv 1) (da_cons (dv 6) da_nil))))
      (dss_cons (ds_set (j := 12) sc_law.nd rfl (by first | exact .inl rfl | exact .inr rfl) (de_call (ok__law_least T) (hr.mono (by decide)) (by rfl) T.mg__law_least T.kp__law_least T.bd__law_least pass0 (da_cons (dv 11) da_nil)))
      (dss_cons (ds_set (j := 13) sc_law.nd rfl (by first | exact .inl rfl | exact .inr rfl) (de_lstM da_nil))
      (dss_cons (ds_for (di_range1 (by rfl) T.b_range (da_cons de_int da_nil)) (dg_name (j := 14) sc_law.nd rfl (by first | exact .inl rfl | exact .inr rfl)) (dss_cons (ds_set (j := 15) sc_law.nd rfl (by first | exact .inl rfl | exact .inr rfl) (de_make T.mk_Row (ok_Row___init__ T) (hr.mono (by decide)) (by rfl) T.mg_Row T.bd_Row___init__ pass0 (da_cons (de_ifExp (dt_cmp op_lt s2_lt (dv 14) de_int (nomark _)) (dv 7) (dv 8)) (da_cons (de_call (ok__law_text T) (hr.mono (by decide)) (by rfl) T.mg__law_text T.kp__law_text T.bd__law_text pass0 (da_cons (dv 4) (da_cons (de_ifExp (dt_cmp op_gt s2_gt (dv 14) de_int (nomark _)) (de_call (ok__law_other T) (hr.mono (by decide)) (by rfl) T.mg__law_other T.kp__law_other T.bd__law_other pass0 (da_cons (dv 1) (da_cons (dv 11) da_nil))) (dv 11)) da_nil))) da_nil))))
      (dss_cons (ds_if (dt_not (dt_tru (de_call (ok__law_row_so T) (hr.mono (by decide)) (by rfl) T.mg__law_row_so T.kp__law_row_so T.bd__law_row_so pass0 (da_cons (dv 1) (da_cons (dv 15) (da_cons (dv 7) (da_cons (dv 4) (da_cons (dv 12) da_nil)))))))) (dss_one (ds_ret de_bl)) dss_nil)
      (dss_one (ds_expr (de_bm PySem.F.plainAttrs_list PySem.F.slot_list_append PySem.F.type_list_append mt_append sm_append (.inl rfl) (dv 13) (da_cons (dv 15) da_nil)))))) PassesOwn.never)
      (dss_cons (ds_set (j := 16) sc_law.nd rfl (by first | exact .inl rfl | exact .inr rfl) (de_call (ok__law_other T) (hr.mono (by decide)) (by rfl) T.mg__law_other T.kp__law_other T.bd__law_other pass0 (da_cons (dv 1) (da_cons (dv 11) da_nil))))
      (dss_cons (ds_set (j := 17) sc_law.nd rfl (by first | exact .inl rfl | exact .inr rfl) (de_smeth (de_globC (by rfl) T.mg_Row) T.sm_Row_of (ok_Row_of T) (hr.mono (by decide)) T.bd_Row_of pass0 (da_cons (de_make T.mk_Word (ok_Word___init__ T) (hr.mono (by decide)) (by rfl) T.mg_Word T.bd_Word___init__ pass0 (da_cons (dv 7) (da_cons (de_call (ok__law_item_text T) (hr.mono (by decide)) (by rfl) T.mg__law_item_text T.kp__law_item_text T.bd__law_item_text pass0 (da_cons (dv 4) (da_cons (de_ix (hu_of hr) (dv 16) de_int (fun _ _ => rfl)) da_nil))) da_nil))) (da_cons (de_make T.mk_Word (ok_Word___init__ T) (hr.mono (by decide)) (by rfl) T.mg_Word T.bd_Word___init__ pass0 (da_cons (dv 8) (da_cons (de_call (ok__law_item_text T) (hr.mono (by decide)) (by rfl) T.mg__law_item_text T.kp__law_item_text T.bd__law_item_text pass0 (da_cons (dv 4) (da_cons (de_ix (hu_of hr) (dv 16) de_int (fun _ _ => rfl)) da_nil))) da_nil))) da_nil))))
      (dss_cons (ds_set (j := 18) sc_law.nd rfl (by first | exact .inl rfl | exact .inr rfl) (de_smethK (kr_Row_of_k_0_period_beginning) (de_globC (by rfl) T.mg_Row) T.sm_Row_of (ok_Row_of T) (hr.mono (by decide)) T.kb_Row_of_k_0_period_beginning pass0 (dk_cons (de_make T.mk_Word (ok_Word___init__ T) (hr.mono (by decide)) (by rfl) T.mg_Word T.bd_Word___init__ pass0 (da_cons (dv 7) (da_cons (de_call (ok__law_item_text T) (hr.mono (by decide)) (by rfl) T.mg__law_item_text T.kp__law_item_text T.bd__law_item_text pass0 (da_cons (dv 4) (da_cons (de_ix (hu_of hr) (dv 16) de_int (fun _ _ => rfl)) da_nil))) da_nil))) (dk_cons (de_make T.mk_Word (ok_Word___init__ T) (hr.mono (by decide)) (by rfl) T.mg_Word T.bd_Word___init__ pass0 (da_cons (dv 7) (da_cons (de_call (ok__law_item_text T) (hr.mono (by decide)) (by rfl) T.mg__law_item_text T.kp__law_item_text T.bd__law_item_text pass0 (da_cons (dv 4) (da_cons (de_ix (hu_of hr) (dv 16) de_int (fun _ _ => rfl)) da_nil))) da_nil))) dk_nil))))
      (dss_cons (ds_if (DW.dt (dw_or (dt_not (dt_tru (de_call (ok__law_row_so T) (hr.mono (by decide)) (by rfl) T.mg__law_row_so T.kp__law_row_so T.bd__law_row_so pass0 (da_cons (dv 1) (da_cons (dv 17) (da_cons (dv 7) (da_cons (dv 4) (da_cons (dv 12) da_nil)))))))) (dw_or1 (dt_not (dt_tru (de_call (ok__law_alike T) (hr.mono (by decide)) (by rfl) T.mg__law_alike T.kp__law_alike T.bd__law_alike pass0 (da_cons (dv 18) (da_cons (de_ix (hu_of hr) (dv 13) de_int (fun _ _ => rfl)) (da_cons de_bl da_nil))))))))) (dss_one (ds_ret de_bl)) dss_nil)
      (dss_cons (ds_forR (dv 13) (dg_name (j := 15) sc_law.nd rfl (by first | exact .inl rfl | exact .inr rfl)) (dss_one (ds_if (DW.dt (dw_or (dt_not (dt_tru (de_call (ok__law_alike T) (hr.mono (by decide)) (by rfl) T.mg__law_alike T.kp__law_alike T.bd__law_alike pass0 (da_cons (de_ix (hu_of hr) (dv 13) de_int (fun _ _ => rfl)) (da_cons (dv 15) (da_cons de_bl da_nil)))))) (dw_or1 (dt_not (dt_tru (de_call (ok__law_alike T) (hr.mono (by decide)) (by rfl) T.mg__law_alike T.kp__law_alike T.bd__law_alike pass0 (da_cons (dv 17) (da_cons (dv 15) (da_cons de_bl da_nil))))))))) (dss_one (ds_ret de_bl)) dss_nil)) PassesOwn.never)
      (dss_cons (ds_for (di_range1 (by rfl) T.b_range (da_cons de_int da_nil)) (dg_name (j := 14) sc_law.nd rfl (by first | exact .inl rfl | exact .inr rfl)) (dss_cons (ds_set (j := 19) sc_law.nd rfl (by first | exact .inl rfl | exact .inr rfl) (de_call (ok__law_near T) (hr.mono (by decide)) (by rfl) T.mg__law_near T.kp__law_near T.bd__law_near pass0 (da_cons (dv 1) (da_cons (dv 11) (da_cons (dv 6) da_nil)))))
      (dss_cons (ds_set (j := 15) sc_law.nd rfl (by first | exact .inl rfl | exact .inr rfl) (de_makeK (kr_Row___init___k_1_text_ground) T.mk_Row (ok_Row___init__ T) (hr.mono (by decide)) (by rfl) T.mg_Row T.kb_Row___init___k_1_text_ground pass0 (dk_cons (de_call (ok__law_text T) (hr.mono (by decide)) (by rfl) T.mg__law_text T.kp__law_text T.bd__law_text pass0 (da_cons (dv 4) (da_cons (dv 19) da_nil))) (dk_cons (dv 7) dk_nil))))
      (dss_one (ds_if (DW.dt (dw_or (dt_not (dt_tru (de_call (ok__law_alike T) (hr.mono (by decide)) (by rfl) T.mg__law_alike T.kp__law_alike T.bd__law_alike pass0 (da_cons (de_ix (hu_of hr) (dv 13) (dv 14) (fun _ _ => rfl)) (da_cons (dv 15) (da_cons (de_cmp (op_eqD hr.units) s2_eq (de_call (ok__law_least T) (hr.mono (by decide)) (by rfl) T.mg__law_least T.kp__law_least T.bd__law_least pass0 (da_cons (dv 19) da_nil)) (dv 12) (nomark _)) da_nil)))))) (dw_or1 (dt_not (dt_tru (de_call (ok__law_row_so T) (hr.mono (by decide)) (by rfl) T.mg__law_row_so T.kp__law_row_so T.bd__law_row_so pass0 (da_cons (dv 1) (da_cons (dv 15) (da_cons (dv 7) (da_cons (dv 4) (da_cons (de_call (ok__law_least T) (hr.mono (by decide)) (by rfl) T.mg__law_least T.kp__law_least T.bd__law_least pass0 (da_cons (dv 19) da_nil)) da_nil))))))))))) (dss_one (ds_ret de_bl)) dss_nil)))) PassesOwn.never)
      (dss_cons (ds_set (j := 20) sc_law.nd rfl (by first | exact .inl rfl | exact .inr rfl) (de_ifExp (dt_cmp op_lt s2_lt (de_callB call_lenA sl_len (by rfl) T.b_len (by decide +kernel) (da_cons (dv 3) da_nil)) (de_ifExp (dt_cmp (op_eqD hr.units) s2_eq (dv 2) de_str (nomark _)) de_int de_int) (nomark _)) (de_add (dv 3) (de_slice (dv 9) do_none (do_some de_int))) (de_slice3 (dv 3) do_none do_none (do_some (de_neg de_int)))))
      (dss_cons (ds_if (DW.dt (dw_and (DW.dt (dw_or (dt_cmp (op_eqD hr.units) s2_eq (dv 2) de_str (nomark _)) (dw_or1 (dt_cmp op_lt s2_lt (de_callB call_lenA sl_len (by rfl) T.b_len (by decide +kernel) (da_cons (dv 3) da_nil)) de_int (nomark _))))) (dw_and1 (dt_not (dt_tru (de_call (ok__law_alike T) (hr.mono (by decide)) (by rfl) T.mg__law_alike T.kp__law_alike T.bd__law_alike pass0 (da_cons (de_ix (hu_of hr) (dv 13) de_int (fun _ _ => rfl)) (da_cons (de_make T.mk_Row (ok_Row___init__ T) (hr.mono (by decide)) (by rfl) T.mg_Row T.bd_Row___init__ pass0 (da_cons (de_make T.mk_Ground (ok_Ground___init__ T) (hr.mono (by decide)) (by rfl) T.mg_Ground T.bd_Ground___init__ pass0 (da_cons (de_bm PySem.F.plainAttrs_str PySem.F.slot_str_join PySem.F.type_str_join mt_join sm_join (.inr (.inr (.inl rfl))) de_str (da_cons (de_add (de_lst (da_cons (dv 2) da_nil)) (dv 20)) da_nil)) da_nil)) (da_cons (de_fld (de_ix (hu_of hr) (dv 13) de_int (fun _ _ => rfl))) da_nil))) (da_cons de_bl da_nil))))))))) (dss_one (ds_ret de_bl)) dss_nil)
      (dss_cons (ds_set (j := 21) sc_law.nd rfl (by first | exact .inl rfl | exact .inr rfl) (de_make T.mk_Row (ok_Row___init__ T) (hr.mono (by decide)) (by rfl) T.mg_Row T.bd_Row___init__ pass0 (da_cons (dv 10) (da_cons (de_call (ok__law_text T) (hr.mono (by decide)) (by rfl) T.mg__law_text T.kp__law_text T.bd__law_text pass0 (da_cons (de_call (ok__law_written T) (hr.mono (by decide)) (by rfl) T.mg__law_written T.kp__law_written T.bd__law_written pass0 (da_cons (dv 2) (da_cons (dv 9) da_nil))) (da_cons (dv 11) da_nil))) da_nil))))
      (dss_cons (ds_if (dt_not (dt_tru (de_call (ok__law_alike T) (hr.mono (by decide)) (by rfl) T.mg__law_alike T.kp__law_alike T.bd__law_alike pass0 (da_cons (de_ix (hu_of hr) (dv 13) de_int (fun _ _ => rfl)) (da_cons (dv 21) (da_cons de_bl da_nil)))))) (dss_one (ds_ret de_bl)) dss_nil)
      (dss_cons (ds_for (di_seq (de_lst (da_cons (de_fld (de_ix (hu_of hr) (dv 13) de_int (fun _ _ => rfl))) (da_cons de_non (da_cons (dv 11) (da_cons (de_fld (de_ix (hu_of hr) (dv 13) de_int (fun _ _ => rfl))) (da_cons (dv 7) (da_cons de_int da_nil)))))))) (dg_name (j := 22) sc_law.nd rfl (by first | exact .inl rfl | exact .inr rfl)) (dss_one (ds_if (DW.dt (dw_or (dt_cmp (op_eqL T.me_Row___eq__ (ok_Row___eq__ T) (hr.mono (by decide)) T.bd_Row___eq__ pass0) s2_eqL (de_ix (hu_of hr) (dv 13) de_int (fun _ _ => rfl)) (dv 22) (nomark _)) (dw_or1 (dt_cmp (OpR.or (op_eqL T.me_Ground___eq__ (ok_Ground___eq__ T) (hr.mono (by decide)) T.bd_Ground___eq__ pass0) (OpR.or (op_eqL T.me_Word___eq__ (ok_Word___eq__ T) (hr.mono (by decide)) T.bd_Word___eq__ pass0) (op_eqR T.me_Row___eq__ T.st_Row (ok_Row___eq__ T) (hr.mono (by decide)) T.bd_Row___eq__ pass0))) (s2_or s2_eqL (s2_or s2_eqL s2_eqR)) (dv 22) (de_ix (hu_of hr) (dv 13) de_int (fun _ _ => rfl)) (nomark _))))) (dss_one (ds_ret de_bl)) dss_nil)) PassesOwn.never)
      (dss_one (ds_ret (de_call (ok__law_row_so T) (hr.mono (by decide)) (by rfl) T.mg__law_row_so T.kp__law_row_so T.bd__law_row_so pass0 (da_cons (dv 1) (da_cons (de_ix (hu_of hr) (dv 13) de_int (fun _ _ => rfl)) (da_cons (dv 8) (da_cons (dv 4) (da_cons (dv 12) da_nil))))))))))))))))))))))))))))), fun ds M Q hl h => ?_⟩
  obtain ⟨ns, rfl, hns, q⟩ := h
  walk_at "start"
  walk_at "go"
  refine ⟨ns, rfl, hns, fun b c hb0 hc => ?_⟩
  walk_at "go"
  refine ⟨b, rfl, ⟨c, mupd_same, hc⟩, fun k ms c1 g hc1 => ?_⟩
  rw [mupd_mupd]
  walk_at "go"
  refine make_gr g fun x hx => ?_
  rw [mdel_new hx, fold_gr]
  walk_at "go"
  refine make_gr g fun x hx => ?_
  rw [mdel_new hx, fold_gr]
  walk_at "go"
  have hln : ms.length ≤ 6 := by rcases g.kd with z | z <;> omega
  refine ⟨b, ms.length, ms, by rw [length_dS], hln, hln, g.nd, ⟨c1, mupd_same, hc1⟩, fun os c2 hol hod hok hc2 => ?_⟩
  rw [mupd_mupd]
  have go : GoodG k os := ⟨by rw [hol]; exact g.kd, (List.nodup_append.mp hod).2.1, hok⟩
  have hk7 := (g.k).2.1
  rw [← tl_len] at hk7
  walk_at "go"
  refine ⟨by decide +kernel, k :: os, rfl, by simp; omega, fun y hy => ?_, ?_⟩
  · rcases List.mem_cons.mp hy with rfl | hy
    · omega
    · have := (hok y hy).l8
      omega
  walk_at "go"
  refine make_gr go fun x hx => ?_
  rw [mdel_new hx, fold_gr]
  walk_at "go"
  have hsz := g.len
  refine ⟨b, (lettersOf k ms).length, by rw [length_dS], hsz.1, by omega, ⟨c2, mupd_same, hc2⟩, fun p c3 hp hc3 => ?_⟩
  rw [mupd_mupd]
  have hp1 := hp.l1
  have hp2 := hp.l2
  walk_at "go"
  refine ⟨p, rfl, hp.ne, by omega, by omega, fun x hx => ?_⟩
  have hxo := hp.isl hx
  walk_at "go"
  intro pr hpr
  walk_at "go"
  have hne : b ≠ pr := mne mupd_same hpr
  have hpr0 : M pr = none := by rw [mupd_ne (Ne.symm hne)] at hpr; exact hpr
  have hbag : ∀ c rs, GoodBag c → Bag (mupd (mupd M b c) pr (.lst rs)) b := fun c rs h => ⟨c, by rw [mupd_ne hne, mupd_same], h⟩
  have hup : ∀ c rs c', mupd (mupd (mupd M b c) pr (.lst rs)) b c' = mupd (mupd M b c') pr (.lst rs) := fun c rs c' => by rw [mupd_comm (Ne.symm hne), mupd_mupd]
  refine go_seqK (J := fun G' M' => ∃ x14 x15 c, G' = [some (.rol (ns.map .int)), some (.ref b), some (.str k), some (.list (dS ms)), some (.list (dS (lettersOf k ms))), some (.str (gtext k ms)), some (.int ((dS (lettersOf k ms)).length : Int)), some (grD a k ms), some (grD a k ms), some (.list (dS os)), some (grD a k os), some (dP p), some (dP x), some (.ref pr), x14, x15, none, none, none, none, none, none, none] ∧ M' = mupd (mupd M b c) pr (.lst (List.replicate 5 (rwD a k ms x))) ∧ GoodBag c) (fun nx hk => ?_) (fun G' M' hJ => ?_)
  · walk_at "go"
    refine go_forI (fun i G' M' => ∃ x14 x15 c, G' = [some (.rol (ns.map .int)), some (.ref b), some (.str k), some (.list (dS ms)), some (.list (dS (lettersOf k ms))), some (.str (gtext k ms)), some (.int ((dS (lettersOf k ms)).length : Int)), some (grD a k ms), some (grD a k ms), some (.list (dS os)), some (grD a k os), some (dP p), some (dP x), some (.ref pr), x14, x15, none, none, none, none, none, none, none] ∧ M' = mupd (mupd M b c) pr (.lst (List.replicate i (rwD a k ms x))) ∧ GoodBag c)
      ⟨_, _, _, rfl, rfl, hc3⟩ (fun i d G' M' nx' hd hI hn => ?_) (fun G' M' hI => ?_)
    · obtain ⟨x14, x15, c, rfl, rfl, hc⟩ := hI
      obtain ⟨hlt, rfl⟩ := rng_get hd
      walk_at "go"
      refine go_ite (fun e => ?_) (fun e => ?_)
      all_goals
        walk_at "go"
        refine go_ite (fun e => ?_) (fun e => ?_)
        · walk_at "go"
          refine ⟨b, _, p, rfl, hp, hbag c _ hc, fun r c4 hr hrs hc4 => ?_⟩
          rw [hup]
          walk_at "go"
          refine ⟨k, ms, r, rfl, g, hr, ?_⟩
          walk_at "go"
          refine make_rw g hr fun x0 y hx0 hy => ?_
          rw [mdel_new hx0, fold_rw]
          obtain rfl : y = x := isl_eq hx hy hrs
          walk_at "goS"
          refine ⟨b, k, ms, y, rfl, g, hxo, hbag c4 _ hc4, fun c5 hc5 => ?_⟩
          rw [hup]
          walk_at "goS"
          · rw [List.length_replicate]; omega
          rw [mupd_mupd]
          refine hn _ _ ⟨_, _, c5, rfl, by rw [List.replicate_succ'], hc5⟩
        · 
          walk_at "go"
          refine ⟨k, ms, p, rfl, g, hp, ?_⟩
          walk_at "go"
          refine make_rw g hp fun x0 y hx0 hy => ?_
          rw [mdel_new hx0, fold_rw]
          obtain rfl : y = x := isl_eq hx hy (.rfl' p)
          walk_at "goS"
          refine ⟨b, k, ms, y, rfl, g, hxo, hbag c _ hc, fun c5 hc5 => ?_⟩
          rw [hup]
          walk_at "goS"
          · rw [List.length_replicate]; omega
          rw [mupd_mupd]
          refine hn _ _ ⟨_, _, c5, rfl, by rw [List.replicate_succ'], hc5⟩
    · exact hk _ _ hI
  obtain ⟨x14, x15, c, rfl, rfl, hc⟩ := hJ
  have at5 : ∀ j : Nat, j < 5 → atI (List.replicate 5 (rwD a k ms x)) (j : Int) = some (rwD a k ms x) := fun j hj => by
    rw [atI_c, List.getElem?_replicate, if_pos hj]
  have at0 : atI (List.replicate 5 (rwD a k ms x)) 0 = some (rwD a k ms x) := at5 0 (by decide)
  have at1 : atI (List.replicate 5 (rwD a k ms x)) 1 = some (rwD a k ms x) := at5 1 (by decide)
  walk_at "goS"
  refine ⟨b, _, p, rfl, hp, hbag c _ hc, fun r c4 hr hrs hc4 => ?_⟩
  rw [hup]
  have hr1 := hr.l1
  have hr2 := hr.l2
  walk_at "goS"
  refine ⟨k, ms, r.1, rfl, g, hr.lt1, by omega, ?_⟩
  walk_at "goS"
  refine make_wd g hr.lt1 hr.l1 fun x0 hx0 => ?_
  rw [mdel_new hx0, fold_wd]
  walk_at "goS"
  refine ⟨k, ms, r.2, rfl, g, hr.lt2, by omega, ?_⟩
  walk_at "goS"
  refine make_wd g hr.lt2 (by omega) fun x0 hx0 => ?_
  rw [mdel_new hx0, fold_wd]
  walk_at "goS"
  refine ⟨k, ms, r, rfl, g, hr, fun y hy => ?_⟩
  obtain rfl : y = x := isl_eq hx hy hrs
  walk_at "goS"
  refine ⟨k, ms, r.2, rfl, g, hr.lt2, by omega, ?_⟩
  walk_at "goS"
  refine make_wd g hr.lt2 (by omega) fun x0 hx0 => ?_
  rw [mdel_new hx0, fold_wd]
  walk_at "goS"
  refine ⟨k, ms, r.1, rfl, g, hr.lt1, by omega, ?_⟩
  walk_at "goS"
  refine make_wd g hr.lt1 hr.l1 fun x0 hx0 => ?_
  rw [mdel_new hx0, fold_wd]
  walk_at "goS"
  refine ⟨k, ms, r, rfl, g, hr, fun y' hy' => ?_⟩
  obtain rfl : y' = y := isl_eq hx hy' hrs
  walk_at "goS"
  refine ⟨b, k, ms, y', rfl, g, hxo, hbag c4 _ hc4, fun c5 hc5 => ?_⟩
  rw [hup]
  walk_at "goS"
  refine ⟨k, ms, y', k, ms, y', true, rfl, g, hxo, g, hxo, by simp, ?_⟩
  walk_at "goS"
  refine go_forR ?_
  walk_at "goS"
  refine ⟨pr, _, rfl, mupd_same, ?_⟩
  refine go_forRI (fun j G' M' => ∃ x14 x15, G' = [some (.rol (ns.map .int)), some (.ref b), some (.str k), some (.list (dS ms)), some (.list (dS (lettersOf k ms))), some (.str (gtext k ms)), some (.int ((dS (lettersOf k ms)).length : Int)), some (grD a k ms), some (grD a k ms), some (.list (dS os)), some (grD a k os), some (dP p), some (dP y'), some (.ref pr), x14, x15, some (dP r), some (rwD a k ms y'), some (rwD a k ms y'), none, none, none, none] ∧ M' = mupd (mupd M b c5) pr (.lst (List.replicate 5 (rwD a k ms y'))))
    ⟨_, _, rfl, rfl⟩ (fun j G' M' hI => by obtain ⟨x14, x15, rfl, rfl⟩ := hI; exact mupd_same) (fun j d G' M' nx' hd hI hn => ?_) (fun G' M' hI => ?_)
  · obtain ⟨x14, x15, rfl, rfl⟩ := hI
    obtain rfl : d = rwD a k ms y' := (List.mem_replicate.mp (List.mem_of_getElem? hd)).2
    walk_at "goS"
    refine ⟨k, ms, y', k, ms, y', true, rfl, g, hxo, g, hxo, by simp, ?_⟩
    walk_at "goS"
    refine ⟨k, ms, y', k, ms, y', true, rfl, g, hxo, g, hxo, by simp, ?_⟩
    walk_at "goS"
    exact hn _ _ ⟨_, _, rfl, rfl⟩
  obtain ⟨x14, x15, rfl, rfl⟩ := hI
  walk_at "goS"
  refine go_forI (fun j G' M' => ∃ x14 x15 x19 c, G' = [some (.rol (ns.map .int)), some (.ref b), some (.str k), some (.list (dS ms)), some (.list (dS (lettersOf k ms))), some (.str (gtext k ms)), some (.int ((dS (lettersOf k ms)).length : Int)), some (grD a k ms), some (grD a k ms), some (.list (dS os)), some (grD a k os), some (dP p), some (dP y'), some (.ref pr), x14, x15, some (dP r), some (rwD a k ms y'), some (rwD a k ms y'), x19, none, none, none] ∧ M' = mupd (mupd M b c) pr (.lst (List.replicate 5 (rwD a k ms y'))) ∧ GoodBag c)
    ⟨_, _, _, _, rfl, rfl, hc5⟩ (fun j d G' M' nx' hd hI hn => ?_) (fun G' M' hI => ?_)
  · obtain ⟨x14, x15, x19, c, rfl, rfl, hc⟩ := hI
    obtain ⟨hlt, rfl⟩ := rng_get hd
    walk_at "goS"
    refine ⟨b, p, (lettersOf k ms).length, by rw [length_dS], hp, hsz.1, by omega, hbag c _ hc, fun n c6 hnp hc6 => ?_⟩
    rw [hup]
    have hn1 := hnp.l1
    have hn2 := hnp.l2
    walk_at "goS"
    refine ⟨k, ms, n, rfl, g, hnp, ?_⟩
    walk_at "goS"
    refine fun x0 h0 => ⟨rfl, ?_⟩
    rw [show kg_Row___init___k_1_text_ground [D.ref x0] [D.str (rtext (lettersOf k ms) n), grD a k ms] = [D.ref x0, grD a k ms, D.str (rtext (lettersOf k ms) n)] from rfl]
    revert h0
    revert x0
    refine make_rw g hnp fun x0 z hx0 hz => ?_
    rw [mdel_new hx0, fold_rw]
    have hzo := hnp.isl hz
    have ej := at5 j (by omega)
    rw [← Int.zero_add (j : Int)] at ej
    walk_at "goS"
    refine ⟨n, rfl, hnp.ne, by omega, by omega, fun z' hz' => ?_⟩
    obtain rfl : z' = z := isl_eq hz hz' (.rfl' n)
    walk_at "goS"
    refine go_eqP ?_
    walk_at "goS"
    refine ⟨k, ms, y', k, ms, z', _, rfl, g, hxo, g, hzo, by rw [beq_self_eq_true, rtext_beq g hxo hzo, Bool.true_and, decide_eq_decide]; exact eq_comm, ?_⟩
    walk_at "goS"
    refine ⟨n, rfl, hnp.ne, by omega, by omega, fun z2 hz2 => ?_⟩
    obtain rfl : z2 = z' := isl_eq hz hz2 (.rfl' n)
    walk_at "goS"
    refine ⟨b, k, ms, z2, rfl, g, hzo, hbag c6 _ hc6, fun c7 hc7 => ?_⟩
    rw [hup]
    walk_at "goS"
    exact hn _ _ ⟨_, _, _, _, rfl, rfl, hc7⟩
  obtain ⟨x14, x15, x19, c, rfl, rfl, hc⟩ := hI
  refine go_cvU ?_
  refine go_seqK (J := fun G' M' => ∃ mo, G' = [some (.rol (ns.map .int)), some (.ref b), some (.str k), some (.list (dS ms)), some (.list (dS (lettersOf k ms))), some (.str (gtext k ms)), some (.int ((dS (lettersOf k ms)).length : Int)), some (grD a k ms), some (grD a k ms), some (.list (dS os)), some (grD a k os), some (dP p), some (dP y'), some (.ref pr), x14, x15, some (dP r), some (rwD a k ms y'), some (rwD a k ms y'), x19, some (.list (dS mo)), none, none] ∧ M' = mupd (mupd M b c) pr (.lst (List.replicate 5 (rwD a k ms y'))) ∧ MoreOk k ms os mo) (fun nx hk => ?_) (fun G' M' hJ => ?_)
  · have hkl := strOk_of (kind_low g)
    walk_at "goS"
    refine go_eqS hkl (by decide +kernel) ?_
    refine go_ktest ?_
    refine go_ite (fun e1 => ?_) (fun e1 => ?_)
    · have e1 : k = "letters" := by simpa using e1
      walk_at "goS"
      refine go_ite (fun e2 => ?_) (fun e2 => ?_)
      · have e2 : ms.length < 6 := by rw [length_dS] at e2; have := of_decide_eq_true e2; omega
        walk_at "goS"
        · rw [dS_take1, length_dS, length_dS, List.length_take]; omega
        rw [dS_take1, ← dS_app]
        exact hk _ _ ⟨_, rfl, rfl, .inl ⟨e1, e2, rfl⟩⟩
      · have e2 : ms.length = 6 := by rw [length_dS] at e2; have := of_decide_eq_false e2; omega
        walk_at "goS"
        rw [pick_rev (by rw [length_dS]; omega), dS_rev]
        exact hk _ _ ⟨_, rfl, rfl, .inr (.inl ⟨e1, e2, rfl⟩)⟩
    · have e1 : k = "events" := by
        have : k ≠ "letters" := by simpa using e1
        rcases g.kd with z | z
        · exact absurd z.1 this
        · exact z.1
      have h3 : ms.length ≤ 3 := by
        rcases g.kd with z | z
        · exact absurd (e1.symm.trans z.1) (by decide +kernel)
        · exact z.2.2
      walk_at "goS"
      refine go_ite (fun e2 => ?_) (fun e2 => ?_)
      · have e2 : ms.length < 3 := by rw [length_dS] at e2; have := of_decide_eq_true e2; omega
        walk_at "goS"
        · rw [dS_take1, length_dS, length_dS, List.length_take]; omega
        rw [dS_take1, ← dS_app]
        exact hk _ _ ⟨_, rfl, rfl, .inr (.inr (.inl ⟨e1, e2, rfl⟩))⟩
      · have e2 : ms.length = 3 := by rw [length_dS] at e2; have := of_decide_eq_false e2; omega
        walk_at "goS"
        rw [pick_rev (by rw [length_dS]; omega), dS_rev]
        exact hk _ _ ⟨_, rfl, rfl, .inr (.inr (.inr ⟨e1, e2⟩))⟩
  obtain ⟨mo, rfl, rfl, hmo⟩ := hJ
  refine go_seqK (J := fun G' M' => G' = [some (.rol (ns.map .int)), some (.ref b), some (.str k), some (.list (dS ms)), some (.list (dS (lettersOf k ms))), some (.str (gtext k ms)), some (.int ((dS (lettersOf k ms)).length : Int)), some (grD a k ms), some (grD a k ms), some (.list (dS os)), some (grD a k os), some (dP p), some (dP y'), some (.ref pr), x14, x15, some (dP r), some (rwD a k ms y'), some (rwD a k ms y'), x19, some (.list (dS mo)), none, none] ∧ M' = mupd (mupd M b c) pr (.lst (List.replicate 5 (rwD a k ms y')))) (fun nx hk => ?_) (fun G' M' hJ => ?_)
  · have hkl := strOk_of (kind_low g)
    have hmo2 := more_ok g go hod hxo hmo
    have hcR := T.cl_Row
    have hf1 := T.na_Row_text
    walk_at "goS"
    refine go_eqS hkl (by decide +kernel) ?_
    refine go_ktest ?_
    refine go_ite (fun e1 => ?_) (fun e1 => ?_)
    · have e1 : k = "letters" := by simpa using e1
      obtain ⟨q', gm, hq', het, hnm, hml⟩ := hmo2.resolve_left fun z => absurd (e1.symm.trans z.1) (by decide +kernel)
      walk_at "goS"
      refine ⟨by decide +kernel, k :: mo, rfl, by simp; omega, fun y hy => ?_, ?_⟩
      · rcases List.mem_cons.mp hy with rfl | hy
        · omega
        · have := (gm.ok y hy).l8
          omega
      walk_at "goS"
      refine make_gr gm fun x0 hx0 => ?_
      rw [mdel_new hx0, fold_gr]
      walk_at "goS"
      refine go_kfldO (gs := rwF a k ms y') hcR hf1 rfl ?_
      walk_at "goS"
      refine make_rw2 het gm hq' fun x0 z hx0 hz => ?_
      rw [mdel_new hx0, fold_rw]
      walk_at "goS"
      refine ⟨k, ms, y', k, mo, z, false, rfl, g, hxo, gm, hq'.isl hz, by rw [gtext_bne g gm hnm]; rfl, ?_⟩
      walk_at "goS"
      exact hk _ _ ⟨rfl, rfl⟩
    · walk_at "goS"
      refine go_ite (fun e2 => ?_) (fun e2 => ?_)
      · obtain ⟨q', gm, hq', het, hnm, hml⟩ := hmo2.resolve_left fun z => by rw [length_dS] at e2; have := of_decide_eq_true e2; omega
        walk_at "goS"
        refine ⟨by decide +kernel, k :: mo, rfl, by simp; omega, fun y hy => ?_, ?_⟩
        · rcases List.mem_cons.mp hy with rfl | hy
          · omega
          · have := (gm.ok y hy).l8
            omega
        walk_at "goS"
        refine make_gr gm fun x0 hx0 => ?_
        rw [mdel_new hx0, fold_gr]
        walk_at "goS"
        refine go_kfldO (gs := rwF a k ms y') hcR hf1 rfl ?_
        walk_at "goS"
        refine make_rw2 het gm hq' fun x0 z hx0 hz => ?_
        rw [mdel_new hx0, fold_rw]
        walk_at "goS"
        refine ⟨k, ms, y', k, mo, z, false, rfl, g, hxo, gm, hq'.isl hz, by rw [gtext_bne g gm hnm]; rfl, ?_⟩
        walk_at "goS"
        exact hk _ _ ⟨rfl, rfl⟩
      · walk_at "goS"
        exact hk _ _ ⟨rfl, rfl⟩
  obtain ⟨rfl, rfl⟩ := hJ
  walk_at "goS"
  refine ⟨k, os, rfl, go, ?_⟩
  walk_at "goS"
  have hpo : PathOk (lettersOf k os).length p := by rw [← evs_map_len g go hol.symm]; exact hp
  refine ⟨k, os, p, rfl, go, hpo, ?_⟩
  walk_at "goS"
  refine make_rw go hpo fun x0 z hx0 hz => ?_
  rw [mdel_new hx0, fold_rw]
  walk_at "goS"
  have hm0 : 0 < ms.length := by rcases g.kd with z | z <;> omega
  refine ⟨k, ms, y', k, os, z, false, rfl, g, hxo, go, hpo.isl hz, by rw [gtext_bne g go (apart_ne hod hm0)]; rfl, ?_⟩
  walk_at "goS"
  refine go_kfldO (gs := rwF a k ms y') T.cl_Row T.na_Row_text rfl ?_
  walk_at "goS"
  refine go_kfldO (gs := rwF a k ms y') T.cl_Row T.na_Row_period rfl ?_
  walk_at "goS"
  have hy2 := hxo.l2
  refine go_forI (fun j G' M' => ∃ x22, G' = [some (.rol (ns.map .int)), some (.ref b), some (.str k), some (.list (dS ms)), some (.list (dS (lettersOf k ms))), some (.str (gtext k ms)), some (.int ((dS (lettersOf k ms)).length : Int)), some (grD a k ms), some (grD a k ms), some (.list (dS os)), some (grD a k os), some (dP p), some (dP y'), some (.ref pr), x14, x15, some (dP r), some (rwD a k ms y'), some (rwD a k ms y'), x19, some (.list (dS mo)), some (rwD a k os z), x22] ∧ M' = mupd (mupd M b c) pr (.lst (List.replicate 5 (rwD a k ms y'))))
    ⟨_, rfl, rfl⟩ (fun j d G' M' nx' hd hI hn => ?_) (fun G' M' hI => ?_)
  · obtain ⟨x22, rfl, rfl⟩ := hI
    have hm := List.mem_of_getElem? hd
    clear hd
    simp only [List.mem_cons, List.not_mem_nil, or_false] at hm
    walk_at "goS"
    rcases hm with rfl | rfl | rfl | rfl | rfl | rfl
    · refine go_eqL (tb := .type "str") rfl (nf_ty (by simp)) rfl ⟨k, ms, y', _, rfl, g, hxo, .inr (.inr ⟨⟨"str", rfl⟩, _, rfl, ?_⟩)⟩
      walk_at "goS"
      refine .inr (.inr (go_eqR rfl rfl ⟨k, ms, y', _, rfl, g, hxo, .inr (.inr ⟨⟨"str", rfl⟩, _, rfl, ?_⟩)⟩))
      walk_at "goS"
      exact hn _ _ ⟨_, rfl, rfl⟩
    · refine go_eqL (tb := .type "NoneType") rfl (nf_ty (by simp)) rfl ⟨k, ms, y', _, rfl, g, hxo, .inr (.inr ⟨⟨"NoneType", rfl⟩, _, rfl, ?_⟩)⟩
      walk_at "goS"
      refine .inr (.inr (go_eqR rfl rfl ⟨k, ms, y', _, rfl, g, hxo, .inr (.inr ⟨⟨"NoneType", rfl⟩, _, rfl, ?_⟩)⟩))
      walk_at "goS"
      exact hn _ _ ⟨_, rfl, rfl⟩
    · refine go_eqL (tb := .type "tuple") rfl (nf_ty (by simp)) rfl ⟨k, ms, y', _, rfl, g, hxo, .inr (.inr ⟨⟨"tuple", rfl⟩, _, rfl, ?_⟩)⟩
      walk_at "goS"
      refine .inr (.inr (go_eqR rfl rfl ⟨k, ms, y', _, rfl, g, hxo, .inr (.inr ⟨⟨"tuple", rfl⟩, _, rfl, ?_⟩)⟩))
      walk_at "goS"
      exact hn _ _ ⟨_, rfl, rfl⟩
    · refine go_eqL (tb := .ref a.C_Word) rfl (nf_cls T.sx_Word_Row) rfl ⟨k, ms, y', _, rfl, g, hxo, .inr (.inl ⟨⟨_, .inr rfl⟩, _, rfl, ?_⟩)⟩
      walk_at "goS"
      refine .inr (.inl (go_eqL (tb := .ref a.C_Row) rfl (nf_cls T.sx_Row_Word) rfl ⟨k, ms, y'.2, _, rfl, g, by omega, .inr ⟨⟨_, .inr rfl⟩, _, rfl, ?_⟩⟩))
      walk_at "goS"
      exact hn _ _ ⟨_, rfl, rfl⟩
    · refine go_eqL (tb := .ref a.C_Ground) rfl (nf_cls T.sx_Ground_Row) rfl ⟨k, ms, y', _, rfl, g, hxo, .inr (.inl ⟨⟨_, .inl rfl⟩, _, rfl, ?_⟩)⟩
      walk_at "goS"
      refine .inl (go_eqL (tb := .ref a.C_Row) rfl (nf_cls T.sx_Row_Ground) rfl ⟨k, ms, _, rfl, g, .inr ⟨⟨_, .inr rfl⟩, _, rfl, ?_⟩⟩)
      walk_at "goS"
      exact hn _ _ ⟨_, rfl, rfl⟩
    · refine go_eqL (tb := .type "int") rfl (nf_ty (by simp)) rfl ⟨k, ms, y', _, rfl, g, hxo, .inr (.inr ⟨⟨"int", rfl⟩, _, rfl, ?_⟩)⟩
      walk_at "goS"
      refine .inr (.inr (go_eqR rfl rfl ⟨k, ms, y', _, rfl, g, hxo, .inr (.inr ⟨⟨"int", rfl⟩, _, rfl, ?_⟩)⟩))
      walk_at "goS"
      exact hn _ _ ⟨_, rfl, rfl⟩
  obtain ⟨x22, rfl, rfl⟩ := hI
  walk_at "goS"
  refine ⟨b, k, ms, y', rfl, g, hxo, hbag c _ hc, fun c7 hc7 => ?_⟩
  rw [hup]
  refine DL.Fin.sub (fun x d e => ?_) q
  have n1 : x ≠ b := fun z => by subst z; rw [hb0] at e; cases e
  have n2 : x ≠ pr := fun z => by subst z; rw [hpr0] at e; cases e
  rw [mupd_ne n2, mupd_ne n1]
  exact e
end
end L29

set_option Elab.async false
set_option linter.all false
set_option maxRecDepth 100000
set_option maxHeartbeats 4000000
set_option synthInstance.maxHeartbeats 400000
set_option synthInstance.maxSize 2000
namespace L29
open PySem PySem.Spec PyProof.Rows L2 DL
theorem ints_in {K : PySem.W.Frag} {H : Hp} : ∀ ns : List Int, RelL K H (ns.map V.int) (ns.map D.int)
  | [] => .nil
  | n :: ns => .cons (.int n) (ints_in ns)
theorem law_in {K : PySem.W.Frag} {H : Hp} {a : Addr} {ns : List Int} (hl : ns.length ≤ 63) (_hO : Only H) (hS : SqL K H a (ns.map V.int)) : lift K 1 sp_law [.ref a] H (fun v _ => v = .bl true) fun _ _ _ => False :=
  ⟨[.rol (ns.map .int)], fun _ => none, H, fun d _ => d = .bl true, rfl, ⟨Same.refl H, fun _ _ h => by cases h⟩, .cons (.rol hS (ints_in ns)) .nil, ⟨ns, rfl, hl, rfl⟩, fun d v M' N' H' e _ _ r => by subst e; exact rel_bl r⟩
section
theorem kbn_Row_of_k_0_period_beginning {K : PySem.W.Frag} {kV dc pm : Value} {an : Option Addr} {cd ct : Value} : KBn K (PySem.W.fnOf "of" "Row.of" (defArgs s_Row_of) (defBody s_Row_of) (defScope s_Row_of) .none kV dc pm an cd ct) ["beginning", "period"] 0 ["period", "beginning"] kg_Row_of_k_0_period_beginning kg_Row_of_k_0_period_beginning :=
  ⟨fun s us ws _ h1 h2 => match us, ws, h1, h2 with | [], [_, _], _, _ => .of_eq rfl, by
  intro vs us zs ws r1 r2
  cases r1 with
  | nil =>
    cases r2 with
    | nil => exact .nil
    | cons b0 r2 =>
      cases r2 with
      | nil => exact .nil
      | cons b1 r2 =>
        cases r2 with
        | nil => exact (.cons b1 (.cons b0 .nil))
        | cons _ _ => exact .nil
  | cons _ _ => cases r2 <;> exact .nil⟩
theorem kbn_Row_first_k_1_count {K : PySem.W.Frag} {kV dc pm : Value} {an : Option Addr} {cd ct : Value} : KBn K (PySem.W.fnOf "first" "Row.first" (defArgs s_Row_first) (defBody s_Row_first) (defScope s_Row_first) .none kV dc pm an cd ct) ["self", "count"] 1 ["count"] kg_Row_first_k_1_count kg_Row_first_k_1_count :=
  ⟨fun s us ws _ h1 h2 => match us, ws, h1, h2 with | [_], [_], _, _ => .of_eq rfl, by
  intro vs us zs ws r1 r2
  cases r1 with
  | nil => cases r2 <;> exact .nil
  | cons a0 r1 =>
    cases r1 with
    | nil =>
      cases r2 with
      | nil => exact .nil
      | cons b0 r2 =>
        cases r2 with
        | nil => exact (.cons a0 (.cons b0 .nil))
        | cons _ _ => exact .nil
    | cons _ _ => cases r2 <;> exact .nil⟩
theorem kbn_Row_upto_k_1_count {K : PySem.W.Frag} {kV dc pm : Value} {an : Option Addr} {cd ct : Value} : KBn K (PySem.W.fnOf "upto" "Row.upto" (defArgs s_Row_upto) (defBody s_Row_upto) (defScope s_Row_upto) .none kV dc pm an cd ct) ["self", "count"] 1 ["count"] kg_Row_upto_k_1_count kg_Row_upto_k_1_count :=
  ⟨fun s us ws _ h1 h2 => match us, ws, h1, h2 with | [_], [_], _, _ => .of_eq rfl, by
  intro vs us zs ws r1 r2
  cases r1 with
  | nil => cases r2 <;> exact .nil
  | cons a0 r1 =>
    cases r1 with
    | nil =>
      cases r2 with
      | nil => exact .nil
      | cons b0 r2 =>
        cases r2 with
        | nil => exact (.cons a0 (.cons b0 .nil))
        | cons _ _ => exact .nil
    | cons _ _ => cases r2 <;> exact .nil⟩
theorem kbn_Row_letter_k_1_place {K : PySem.W.Frag} {kV dc pm : Value} {an : Option Addr} {cd ct : Value} : KBn K (PySem.W.fnOf "letter" "Row.letter" (defArgs s_Row_letter) (defBody s_Row_letter) (defScope s_Row_letter) .none kV dc pm an cd ct) ["self", "place"] 1 ["place"] kg_Row_letter_k_1_place kg_Row_letter_k_1_place :=
  ⟨fun s us ws _ h1 h2 => match us, ws, h1, h2 with | [_], [_], _, _ => .of_eq rfl, by
  intro vs us zs ws r1 r2
  cases r1 with
  | nil => cases r2 <;> exact .nil
  | cons a0 r1 =>
    cases r1 with
    | nil =>
      cases r2 with
      | nil => exact .nil
      | cons b0 r2 =>
        cases r2 with
        | nil => exact (.cons a0 (.cons b0 .nil))
        | cons _ _ => exact .nil
    | cons _ _ => cases r2 <;> exact .nil⟩
theorem kbn_Row___init___k_1_text_ground {K : PySem.W.Frag} {kV dc pm : Value} {an : Option Addr} {cd ct : Value} : KBn K (PySem.W.fnOf "__init__" "Row.__init__" (defArgs s_Row___init__) (defBody s_Row___init__) (defScope s_Row___init__) .none kV dc pm an cd ct) ["self", "ground", "text"] 1 ["text", "ground"] kg_Row___init___k_1_text_ground kg_Row___init___k_1_text_ground :=
  ⟨fun s us ws _ h1 h2 => match us, ws, h1, h2 with | [_], [_, _], _, _ => .of_eq rfl, by
  intro vs us zs ws r1 r2
  cases r1 with
  | nil => cases r2 <;> exact .nil
  | cons a0 r1 =>
    cases r1 with
    | nil =>
      cases r2 with
      | nil => exact .nil
      | cons b0 r2 =>
        cases r2 with
        | nil => exact .nil
        | cons b1 r2 =>
          cases r2 with
          | nil => exact (.cons a0 (.cons b1 (.cons b0 .nil)))
          | cons _ _ => exact .nil
    | cons _ _ => cases r2 <;> exact .nil⟩
set_option maxHeartbeats 0 in
theorem all_mk {l : PySem.W.OpenLaw} {w : World} {K : PySem.W.Frag} {h : Heap} {mg : Str → Option Value} {fa f0 f1 f2 f3 f4 f5 f6 f7 f8 f9 f10 f11 f12 f13 f14 f15 f16 f17 f18 f19 f20 f21 f22 f23 f24 f25 f26 f27 f28 f29 f30 f31 f32 f33 f34 f35 f36 f37 f38 f39 f40 f41 f42 f43 C_Ground C_Word C_Row D_RESERVED pst19 : Addr} (X : K.In h) (G : h.Ns mainGlobals mg) (hfa : mg "law" = some (.ref fa))
    {od0 an0 od1 an1 od2 an2 od3 an3 od4 an4 od5 an5 od6 an6 od7 an7 od8 an8 od9 an9 od10 an10 od11 an11 od12 an12 od13 an13 od14 an14 od15 an15 od16 an16 od17 an17 od18 an18 od19 an19 od20 an20 od21 an21 od22 an22 od23 an23 od24 an24 od25 an25 od26 an26 od27 an27 od28 an28 od29 an29 od30 an30 od31 an31 od32 an32 od33 an33 od34 an34 od35 an35 od36 an36 od37 an37 od38 an38 od39 an39 od40 an40 od41 an41 od42 an42 od43 an43 : Option Addr} {sl0 sl1 sl2 sl3 sl4 sl5 sl6 sl7 sl8 sl9 sl10 sl11 sl12 sl13 sl14 sl15 sl16 sl17 sl18 sl19 sl20 sl21 sl22 sl23 sl24 sl25 sl26 sl27 sl28 sl29 sl30 sl31 sl32 sl33 sl34 sl35 sl36 sl37 sl38 sl39 sl40 sl41 sl42 sl43 : Array (Option Value)} {oc0 kV0 dc0 pm0 cd0 ct0 oc1 kV1 dc1 pm1 cd1 ct1 oc2 kV2 dc2 pm2 cd2 ct2 oc3 kV3 dc3 pm3 cd3 ct3 oc4 kV4 dc4 pm4 cd4 ct4 oc5 kV5 dc5 pm5 cd5 ct5 oc6 kV6 dc6 pm6 cd6 ct6 oc7 kV7 dc7 pm7 cd7 ct7 oc8 kV8 dc8 pm8 cd8 ct8 oc9 kV9 dc9 pm9 cd9 ct9 oc10 kV10 dc10 pm10 cd10 ct10 oc11 kV11 dc11 pm11 cd11 ct11 oc12 kV12 dc12 pm12 cd12 ct12 oc13 kV13 dc13 pm13 cd13 ct13 oc14 kV14 dc14 pm14 cd14 ct14 oc15 kV15 dc15 pm15 cd15 ct15 oc16 kV16 dc16 pm16 cd16 ct16 oc17 kV17 dc17 pm17 cd17 ct17 oc18 kV18 dc18 pm18 cd18 ct18 oc19 kV19 dc19 pm19 cd19 ct19 oc20 kV20 dc20 pm20 cd20 ct20 oc21 kV21 dc21 pm21 cd21 ct21 oc22 kV22 dc22 pm22 cd22 ct22 oc23 kV23 dc23 pm23 cd23 ct23 oc24 kV24 dc24 pm24 cd24 ct24 oc25 kV25 dc25 pm25 cd25 ct25 oc26 kV26 dc26 pm26 cd26 ct26 oc27 kV27 dc27 pm27 cd27 ct27 oc28 kV28 dc28 pm28 cd28 ct28 oc29 kV29 dc29 pm29 cd29 ct29 oc30 kV30 dc30 pm30 cd30 ct30 oc31 kV31 dc31 pm31 cd31 ct31 oc32 kV32 dc32 pm32 cd32 ct32 oc33 kV33 dc33 pm33 cd33 ct33 oc34 kV34 dc34 pm34 cd34 ct34 oc35 kV35 dc35 pm35 cd35 ct35 oc36 kV36 dc36 pm36 cd36 ct36 oc37 kV37 dc37 pm37 cd37 ct37 oc38 kV38 dc38 pm38 cd38 ct38 oc39 kV39 dc39 pm39 cd39 ct39 oc40 kV40 dc40 pm40 cd40 ct40 oc41 kV41 dc41 pm41 cd41 ct41 oc42 kV42 dc42 pm42 cd42 ct42 oc43 kV43 dc43 pm43 cd43 ct43 : Value} {tk_MOST_CHARACTERS tk_FIRST_SIGNS tk_SIGNS tk_MOST_LETTERS tk_MOST_EVENTS tk_MOST_IN_WORD tk_MOST_IN_ROUND : Tok} {rst19 : List Value}
    (aC_Ground : PySem.W.nsIn K mainGlobals "Ground" = some (some (.ref C_Ground)))
    (aC_Word : PySem.W.nsIn K mainGlobals "Word" = some (some (.ref C_Word)))
    (aC_Row : PySem.W.nsIn K mainGlobals "Row" = some (some (.ref C_Row)))
    (a0 : PySem.W.nsIn K mainGlobals "right_name" = some (some (.ref f0)))
    (l0 : K.lookup f0 = some ⟨oc0, od0, .func (PySem.W.fnOf "right_name" "right_name" (defArgs s_right_name) (defBody s_right_name) (defScope s_right_name) .none kV0 dc0 pm0 an0 cd0 ct0), sl0⟩)
    (c0 : PySem.W.codeIn K cd0 "right_name" = true)
    (k0 : PySem.W.keepIn K (.ref f0) = true)
    (a1 : PySem.W.nsIn K mainGlobals "check_length" = some (some (.ref f1)))
    (l1 : K.lookup f1 = some ⟨oc1, od1, .func (PySem.W.fnOf "check_length" "check_length" (defArgs s_check_length) (defBody s_check_length) (defScope s_check_length) .none kV1 dc1 pm1 an1 cd1 ct1), sl1⟩)
    (c1 : PySem.W.codeIn K cd1 "check_length" = true)
    (k1 : PySem.W.keepIn K (.ref f1) = true)
    (a2 : PySem.W.nsIn K mainGlobals "split_words" = some (some (.ref f2)))
    (l2 : K.lookup f2 = some ⟨oc2, od2, .func (PySem.W.fnOf "split_words" "split_words" (defArgs s_split_words) (defBody s_split_words) (defScope s_split_words) .none kV2 dc2 pm2 an2 cd2 ct2), sl2⟩)
    (c2 : PySem.W.codeIn K cd2 "split_words" = true)
    (k2 : PySem.W.keepIn K (.ref f2) = true)
    (a3 : PySem.W.nsIn K mainGlobals "_event_sets" = some (some (.ref f3)))
    (l3 : K.lookup f3 = some ⟨oc3, od3, .func (PySem.W.fnOf "_event_sets" "_event_sets" (defArgs s__event_sets) (defBody s__event_sets) (defScope s__event_sets) .none kV3 dc3 pm3 an3 cd3 ct3), sl3⟩)
    (c3 : PySem.W.codeIn K cd3 "_event_sets" = true)
    (k3 : PySem.W.keepIn K (.ref f3) = true)
    (a4 : PySem.W.nsIn K mainGlobals "_read_ground" = some (some (.ref f4)))
    (l4 : K.lookup f4 = some ⟨oc4, od4, .func (PySem.W.fnOf "_read_ground" "_read_ground" (defArgs s__read_ground) (defBody s__read_ground) (defScope s__read_ground) .none kV4 dc4 pm4 an4 cd4 ct4), sl4⟩)
    (c4 : PySem.W.codeIn K cd4 "_read_ground" = true)
    (k4 : PySem.W.keepIn K (.ref f4) = true)
    (a5 : PySem.W.findIn K (.ref C_Ground) "__init__" = some (some (.ref f5)))
    (i5 : PySem.W.isFn K (.ref f5) = true)
    (l5 : K.lookup f5 = some ⟨oc5, od5, .func (PySem.W.fnOf "__init__" "Ground.__init__" (defArgs s_Ground___init__) (defBody s_Ground___init__) (defScope s_Ground___init__) .none kV5 dc5 pm5 an5 cd5 ct5), sl5⟩)
    (c5 : PySem.W.codeIn K cd5 "Ground.__init__" = true)
    (k5 : PySem.W.keepIn K (.ref f5) = true)
    (a6 : PySem.W.findIn K (.ref C_Ground) "number" = some (some (.ref f6)))
    (i6 : PySem.W.isFn K (.ref f6) = true)
    (l6 : K.lookup f6 = some ⟨oc6, od6, .func (PySem.W.fnOf "number" "Ground.number" (defArgs s_Ground_number) (defBody s_Ground_number) (defScope s_Ground_number) .none kV6 dc6 pm6 an6 cd6 ct6), sl6⟩)
    (c6 : PySem.W.codeIn K cd6 "Ground.number" = true)
    (k6 : PySem.W.keepIn K (.ref f6) = true)
    (a7 : PySem.W.findIn K (.ref C_Ground) "__eq__" = some (some (.ref f7)))
    (i7 : PySem.W.isFn K (.ref f7) = true)
    (l7 : K.lookup f7 = some ⟨oc7, od7, .func (PySem.W.fnOf "__eq__" "Ground.__eq__" (defArgs s_Ground___eq__) (defBody s_Ground___eq__) (defScope s_Ground___eq__) .none kV7 dc7 pm7 an7 cd7 ct7), sl7⟩)
    (c7 : PySem.W.codeIn K cd7 "Ground.__eq__" = true)
    (k7 : PySem.W.keepIn K (.ref f7) = true)
    (a8 : PySem.W.nsIn K mainGlobals "_read_letters" = some (some (.ref f8)))
    (l8 : K.lookup f8 = some ⟨oc8, od8, .func (PySem.W.fnOf "_read_letters" "_read_letters" (defArgs s__read_letters) (defBody s__read_letters) (defScope s__read_letters) .none kV8 dc8 pm8 an8 cd8 ct8), sl8⟩)
    (c8 : PySem.W.codeIn K cd8 "_read_letters" = true)
    (k8 : PySem.W.keepIn K (.ref f8) = true)
    (a9 : PySem.W.nsIn K mainGlobals "_read_word" = some (some (.ref f9)))
    (l9 : K.lookup f9 = some ⟨oc9, od9, .func (PySem.W.fnOf "_read_word" "_read_word" (defArgs s__read_word) (defBody s__read_word) (defScope s__read_word) .none kV9 dc9 pm9 an9 cd9 ct9), sl9⟩)
    (c9 : PySem.W.codeIn K cd9 "_read_word" = true)
    (k9 : PySem.W.keepIn K (.ref f9) = true)
    (a10 : PySem.W.nsIn K mainGlobals "_written" = some (some (.ref f10)))
    (l10 : K.lookup f10 = some ⟨oc10, od10, .func (PySem.W.fnOf "_written" "_written" (defArgs s__written) (defBody s__written) (defScope s__written) .none kV10 dc10 pm10 an10 cd10 ct10), sl10⟩)
    (c10 : PySem.W.codeIn K cd10 "_written" = true)
    (k10 : PySem.W.keepIn K (.ref f10) = true)
    (a11 : PySem.W.nsIn K mainGlobals "_word" = some (some (.ref f11)))
    (l11 : K.lookup f11 = some ⟨oc11, od11, .func (PySem.W.fnOf "_word" "_word" (defArgs s__word) (defBody s__word) (defScope s__word) .none kV11 dc11 pm11 an11 cd11 ct11), sl11⟩)
    (c11 : PySem.W.codeIn K cd11 "_word" = true)
    (k11 : PySem.W.keepIn K (.ref f11) = true)
    (a12 : PySem.W.findIn K (.ref C_Word) "__init__" = some (some (.ref f12)))
    (i12 : PySem.W.isFn K (.ref f12) = true)
    (l12 : K.lookup f12 = some ⟨oc12, od12, .func (PySem.W.fnOf "__init__" "Word.__init__" (defArgs s_Word___init__) (defBody s_Word___init__) (defScope s_Word___init__) .none kV12 dc12 pm12 an12 cd12 ct12), sl12⟩)
    (c12 : PySem.W.codeIn K cd12 "Word.__init__" = true)
    (k12 : PySem.W.keepIn K (.ref f12) = true)
    (a13 : PySem.W.findIn K (.ref C_Word) "__eq__" = some (some (.ref f13)))
    (i13 : PySem.W.isFn K (.ref f13) = true)
    (l13 : K.lookup f13 = some ⟨oc13, od13, .func (PySem.W.fnOf "__eq__" "Word.__eq__" (defArgs s_Word___eq__) (defBody s_Word___eq__) (defScope s_Word___eq__) .none kV13 dc13 pm13 an13 cd13 ct13), sl13⟩)
    (c13 : PySem.W.codeIn K cd13 "Word.__eq__" = true)
    (k13 : PySem.W.keepIn K (.ref f13) = true)
    (a14 : PySem.W.nsIn K mainGlobals "_read_row" = some (some (.ref f14)))
    (l14 : K.lookup f14 = some ⟨oc14, od14, .func (PySem.W.fnOf "_read_row" "_read_row" (defArgs s__read_row) (defBody s__read_row) (defScope s__read_row) .none kV14 dc14 pm14 an14 cd14 ct14), sl14⟩)
    (c14 : PySem.W.codeIn K cd14 "_read_row" = true)
    (k14 : PySem.W.keepIn K (.ref f14) = true)
    (a15 : PySem.W.nsIn K mainGlobals "_least" = some (some (.ref f15)))
    (l15 : K.lookup f15 = some ⟨oc15, od15, .func (PySem.W.fnOf "_least" "_least" (defArgs s__least) (defBody s__least) (defScope s__least) .none kV15 dc15 pm15 an15 cd15 ct15), sl15⟩)
    (c15 : PySem.W.codeIn K cd15 "_least" = true)
    (k15 : PySem.W.keepIn K (.ref f15) = true)
    (a16 : PySem.W.nsIn K mainGlobals "_row" = some (some (.ref f16)))
    (l16 : K.lookup f16 = some ⟨oc16, od16, .func (PySem.W.fnOf "_row" "_row" (defArgs s__row) (defBody s__row) (defScope s__row) .none kV16 dc16 pm16 an16 cd16 ct16), sl16⟩)
    (c16 : PySem.W.codeIn K cd16 "_row" = true)
    (k16 : PySem.W.keepIn K (.ref f16) = true)
    (a17 : PySem.W.nsIn K mainGlobals "_row_text" = some (some (.ref f17)))
    (l17 : K.lookup f17 = some ⟨oc17, od17, .func (PySem.W.fnOf "_row_text" "_row_text" (defArgs s__row_text) (defBody s__row_text) (defScope s__row_text) .none kV17 dc17 pm17 an17 cd17 ct17), sl17⟩)
    (c17 : PySem.W.codeIn K cd17 "_row_text" = true)
    (k17 : PySem.W.keepIn K (.ref f17) = true)
    (a18 : PySem.W.findIn K (.ref C_Row) "__init__" = some (some (.ref f18)))
    (i18 : PySem.W.isFn K (.ref f18) = true)
    (l18 : K.lookup f18 = some ⟨oc18, od18, .func (PySem.W.fnOf "__init__" "Row.__init__" (defArgs s_Row___init__) (defBody s_Row___init__) (defScope s_Row___init__) .none kV18 dc18 pm18 an18 cd18 ct18), sl18⟩)
    (c18 : PySem.W.codeIn K cd18 "Row.__init__" = true)
    (k18 : PySem.W.keepIn K (.ref f18) = true)
    (a19 : PySem.W.findCls K (.ref C_Row) (.type "type") "of" = some (.get (.builtin "staticmethod.__get__") (.ref pst19) .none (.ref C_Row)))
    (i19 : PySem.W.recIn K pst19 "staticmethod" = some (.ref f19 :: rst19))
    (rd19 : PySem.W.readsIn K C_Row (.type "type") = true)
    (ga19 : PySem.W.specialIn K (.ref C_Row) "__getattribute__" = some (some (.builtin "type.__getattribute__")))
    (l19 : K.lookup f19 = some ⟨oc19, od19, .func (PySem.W.fnOf "of" "Row.of" (defArgs s_Row_of) (defBody s_Row_of) (defScope s_Row_of) .none kV19 dc19 pm19 an19 cd19 ct19), sl19⟩)
    (c19 : PySem.W.codeIn K cd19 "Row.of" = true)
    (k19 : PySem.W.keepIn K (.ref f19) = true)
    (a20 : PySem.W.findIn K (.ref C_Row) "letter" = some (some (.ref f20)))
    (i20 : PySem.W.isFn K (.ref f20) = true)
    (l20 : K.lookup f20 = some ⟨oc20, od20, .func (PySem.W.fnOf "letter" "Row.letter" (defArgs s_Row_letter) (defBody s_Row_letter) (defScope s_Row_letter) .none kV20 dc20 pm20 an20 cd20 ct20), sl20⟩)
    (c20 : PySem.W.codeIn K cd20 "Row.letter" = true)
    (k20 : PySem.W.keepIn K (.ref f20) = true)
    (a21 : PySem.W.findIn K (.ref C_Row) "first" = some (some (.ref f21)))
    (i21 : PySem.W.isFn K (.ref f21) = true)
    (l21 : K.lookup f21 = some ⟨oc21, od21, .func (PySem.W.fnOf "first" "Row.first" (defArgs s_Row_first) (defBody s_Row_first) (defScope s_Row_first) .none kV21 dc21 pm21 an21 cd21 ct21), sl21⟩)
    (c21 : PySem.W.codeIn K cd21 "Row.first" = true)
    (k21 : PySem.W.keepIn K (.ref f21) = true)
    (a22 : PySem.W.findIn K (.ref C_Row) "upto" = some (some (.ref f22)))
    (i22 : PySem.W.isFn K (.ref f22) = true)
    (l22 : K.lookup f22 = some ⟨oc22, od22, .func (PySem.W.fnOf "upto" "Row.upto" (defArgs s_Row_upto) (defBody s_Row_upto) (defScope s_Row_upto) .none kV22 dc22 pm22 an22 cd22 ct22), sl22⟩)
    (c22 : PySem.W.codeIn K cd22 "Row.upto" = true)
    (k22 : PySem.W.keepIn K (.ref f22) = true)
    (a23 : PySem.W.findIn K (.ref C_Row) "__eq__" = some (some (.ref f23)))
    (i23 : PySem.W.isFn K (.ref f23) = true)
    (l23 : K.lookup f23 = some ⟨oc23, od23, .func (PySem.W.fnOf "__eq__" "Row.__eq__" (defArgs s_Row___eq__) (defBody s_Row___eq__) (defScope s_Row___eq__) .none kV23 dc23 pm23 an23 cd23 ct23), sl23⟩)
    (c23 : PySem.W.codeIn K cd23 "Row.__eq__" = true)
    (k23 : PySem.W.keepIn K (.ref f23) = true)
    (a24 : PySem.W.findIn K (.ref C_Row) "__repr__" = some (some (.ref f24)))
    (i24 : PySem.W.isFn K (.ref f24) = true)
    (l24 : K.lookup f24 = some ⟨oc24, od24, .func (PySem.W.fnOf "__repr__" "Row.__repr__" (defArgs s_Row___repr__) (defBody s_Row___repr__) (defScope s_Row___repr__) .none kV24 dc24 pm24 an24 cd24 ct24), sl24⟩)
    (c24 : PySem.W.codeIn K cd24 "Row.__repr__" = true)
    (k24 : PySem.W.keepIn K (.ref f24) = true)
    (a25 : PySem.W.nsIn K mainGlobals "_law_bag" = some (some (.ref f25)))
    (l25 : K.lookup f25 = some ⟨oc25, od25, .func (PySem.W.fnOf "_law_bag" "_law_bag" (defArgs s__law_bag) (defBody s__law_bag) (defScope s__law_bag) .none kV25 dc25 pm25 an25 cd25 ct25), sl25⟩)
    (c25 : PySem.W.codeIn K cd25 "_law_bag" = true)
    (k25 : PySem.W.keepIn K (.ref f25) = true)
    (a26 : PySem.W.nsIn K mainGlobals "_law_draw" = some (some (.ref f26)))
    (l26 : K.lookup f26 = some ⟨oc26, od26, .func (PySem.W.fnOf "_law_draw" "_law_draw" (defArgs s__law_draw) (defBody s__law_draw) (defScope s__law_draw) .none kV26 dc26 pm26 an26 cd26 ct26), sl26⟩)
    (c26 : PySem.W.codeIn K cd26 "_law_draw" = true)
    (k26 : PySem.W.keepIn K (.ref f26) = true)
    (a27 : PySem.W.nsIn K mainGlobals "_law_of" = some (some (.ref f27)))
    (l27 : K.lookup f27 = some ⟨oc27, od27, .func (PySem.W.fnOf "_law_of" "_law_of" (defArgs s__law_of) (defBody s__law_of) (defScope s__law_of) .none kV27 dc27 pm27 an27 cd27 ct27), sl27⟩)
    (c27 : PySem.W.codeIn K cd27 "_law_of" = true)
    (k27 : PySem.W.keepIn K (.ref f27) = true)
    (a28 : PySem.W.nsIn K mainGlobals "_law_kept" = some (some (.ref f28)))
    (l28 : K.lookup f28 = some ⟨oc28, od28, .func (PySem.W.fnOf "_law_kept" "_law_kept" (defArgs s__law_kept) (defBody s__law_kept) (defScope s__law_kept) .none kV28 dc28 pm28 an28 cd28 ct28), sl28⟩)
    (c28 : PySem.W.codeIn K cd28 "_law_kept" = true)
    (k28 : PySem.W.keepIn K (.ref f28) = true)
    (a29 : PySem.W.nsIn K mainGlobals "_law_name" = some (some (.ref f29)))
    (l29 : K.lookup f29 = some ⟨oc29, od29, .func (PySem.W.fnOf "_law_name" "_law_name" (defArgs s__law_name) (defBody s__law_name) (defScope s__law_name) .none kV29 dc29 pm29 an29 cd29 ct29), sl29⟩)
    (c29 : PySem.W.codeIn K cd29 "_law_name" = true)
    (k29 : PySem.W.keepIn K (.ref f29) = true)
    (a30 : PySem.W.nsIn K mainGlobals "_law_fresh" = some (some (.ref f30)))
    (l30 : K.lookup f30 = some ⟨oc30, od30, .func (PySem.W.fnOf "_law_fresh" "_law_fresh" (defArgs s__law_fresh) (defBody s__law_fresh) (defScope s__law_fresh) .none kV30 dc30 pm30 an30 cd30 ct30), sl30⟩)
    (c30 : PySem.W.codeIn K cd30 "_law_fresh" = true)
    (k30 : PySem.W.keepIn K (.ref f30) = true)
    (a31 : PySem.W.nsIn K mainGlobals "_law_written" = some (some (.ref f31)))
    (l31 : K.lookup f31 = some ⟨oc31, od31, .func (PySem.W.fnOf "_law_written" "_law_written" (defArgs s__law_written) (defBody s__law_written) (defScope s__law_written) .none kV31 dc31 pm31 an31 cd31 ct31), sl31⟩)
    (c31 : PySem.W.codeIn K cd31 "_law_written" = true)
    (k31 : PySem.W.keepIn K (.ref f31) = true)
    (a32 : PySem.W.nsIn K mainGlobals "_law_wide" = some (some (.ref f32)))
    (l32 : K.lookup f32 = some ⟨oc32, od32, .func (PySem.W.fnOf "_law_wide" "_law_wide" (defArgs s__law_wide) (defBody s__law_wide) (defScope s__law_wide) .none kV32 dc32 pm32 an32 cd32 ct32), sl32⟩)
    (c32 : PySem.W.codeIn K cd32 "_law_wide" = true)
    (k32 : PySem.W.keepIn K (.ref f32) = true)
    (a33 : PySem.W.nsIn K mainGlobals "_law_text" = some (some (.ref f33)))
    (l33 : K.lookup f33 = some ⟨oc33, od33, .func (PySem.W.fnOf "_law_text" "_law_text" (defArgs s__law_text) (defBody s__law_text) (defScope s__law_text) .none kV33 dc33 pm33 an33 cd33 ct33), sl33⟩)
    (c33 : PySem.W.codeIn K cd33 "_law_text" = true)
    (k33 : PySem.W.keepIn K (.ref f33) = true)
    (a34 : PySem.W.nsIn K mainGlobals "_law_item_text" = some (some (.ref f34)))
    (l34 : K.lookup f34 = some ⟨oc34, od34, .func (PySem.W.fnOf "_law_item_text" "_law_item_text" (defArgs s__law_item_text) (defBody s__law_item_text) (defScope s__law_item_text) .none kV34 dc34 pm34 an34 cd34 ct34), sl34⟩)
    (c34 : PySem.W.codeIn K cd34 "_law_item_text" = true)
    (k34 : PySem.W.keepIn K (.ref f34) = true)
    (a35 : PySem.W.nsIn K mainGlobals "_law_least" = some (some (.ref f35)))
    (l35 : K.lookup f35 = some ⟨oc35, od35, .func (PySem.W.fnOf "_law_least" "_law_least" (defArgs s__law_least) (defBody s__law_least) (defScope s__law_least) .none kV35 dc35 pm35 an35 cd35 ct35), sl35⟩)
    (c35 : PySem.W.codeIn K cd35 "_law_least" = true)
    (k35 : PySem.W.keepIn K (.ref f35) = true)
    (a36 : PySem.W.nsIn K mainGlobals "_law_like" = some (some (.ref f36)))
    (l36 : K.lookup f36 = some ⟨oc36, od36, .func (PySem.W.fnOf "_law_like" "_law_like" (defArgs s__law_like) (defBody s__law_like) (defScope s__law_like) .none kV36 dc36 pm36 an36 cd36 ct36), sl36⟩)
    (c36 : PySem.W.codeIn K cd36 "_law_like" = true)
    (k36 : PySem.W.keepIn K (.ref f36) = true)
    (a37 : PySem.W.nsIn K mainGlobals "_law_path" = some (some (.ref f37)))
    (l37 : K.lookup f37 = some ⟨oc37, od37, .func (PySem.W.fnOf "_law_path" "_law_path" (defArgs s__law_path) (defBody s__law_path) (defScope s__law_path) .none kV37 dc37 pm37 an37 cd37 ct37), sl37⟩)
    (c37 : PySem.W.codeIn K cd37 "_law_path" = true)
    (k37 : PySem.W.keepIn K (.ref f37) = true)
    (a38 : PySem.W.nsIn K mainGlobals "_law_near" = some (some (.ref f38)))
    (l38 : K.lookup f38 = some ⟨oc38, od38, .func (PySem.W.fnOf "_law_near" "_law_near" (defArgs s__law_near) (defBody s__law_near) (defScope s__law_near) .none kV38 dc38 pm38 an38 cd38 ct38), sl38⟩)
    (c38 : PySem.W.codeIn K cd38 "_law_near" = true)
    (k38 : PySem.W.keepIn K (.ref f38) = true)
    (a39 : PySem.W.nsIn K mainGlobals "_law_other" = some (some (.ref f39)))
    (l39 : K.lookup f39 = some ⟨oc39, od39, .func (PySem.W.fnOf "_law_other" "_law_other" (defArgs s__law_other) (defBody s__law_other) (defScope s__law_other) .none kV39 dc39 pm39 an39 cd39 ct39), sl39⟩)
    (c39 : PySem.W.codeIn K cd39 "_law_other" = true)
    (k39 : PySem.W.keepIn K (.ref f39) = true)
    (a40 : PySem.W.nsIn K mainGlobals "_law_at" = some (some (.ref f40)))
    (l40 : K.lookup f40 = some ⟨oc40, od40, .func (PySem.W.fnOf "_law_at" "_law_at" (defArgs s__law_at) (defBody s__law_at) (defScope s__law_at) .none kV40 dc40 pm40 an40 cd40 ct40), sl40⟩)
    (c40 : PySem.W.codeIn K cd40 "_law_at" = true)
    (k40 : PySem.W.keepIn K (.ref f40) = true)
    (a41 : PySem.W.nsIn K mainGlobals "_law_row_so" = some (some (.ref f41)))
    (l41 : K.lookup f41 = some ⟨oc41, od41, .func (PySem.W.fnOf "_law_row_so" "_law_row_so" (defArgs s__law_row_so) (defBody s__law_row_so) (defScope s__law_row_so) .none kV41 dc41 pm41 an41 cd41 ct41), sl41⟩)
    (c41 : PySem.W.codeIn K cd41 "_law_row_so" = true)
    (k41 : PySem.W.keepIn K (.ref f41) = true)
    (a42 : PySem.W.nsIn K mainGlobals "_law_alike" = some (some (.ref f42)))
    (l42 : K.lookup f42 = some ⟨oc42, od42, .func (PySem.W.fnOf "_law_alike" "_law_alike" (defArgs s__law_alike) (defBody s__law_alike) (defScope s__law_alike) .none kV42 dc42 pm42 an42 cd42 ct42), sl42⟩)
    (c42 : PySem.W.codeIn K cd42 "_law_alike" = true)
    (k42 : PySem.W.keepIn K (.ref f42) = true)
    (a43 : PySem.W.nsIn K mainGlobals "law" = some (some (.ref f43)))
    (l43 : K.lookup f43 = some ⟨oc43, od43, .func (PySem.W.fnOf "law" "law" (defArgs s_law) (defBody s_law) (defScope s_law) .none kV43 dc43 pm43 an43 cd43 ct43), sl43⟩)
    (c43 : PySem.W.codeIn K cd43 "law" = true)
    (k43 : PySem.W.keepIn K (.ref f43) = true)
    (pg_Ground : PySem.W.plainGet K C_Ground Str.empty = true)
    (hd_Ground : PySem.W.hasDictIn K C_Ground = true)
    (po_Ground : PySem.W.plainOver K C_Ground = true)
    (sa_Ground : PySem.W.findIn K (.ref C_Ground) "__setattr__" = some (some (.builtin "object.__setattr__")))
    (mk_Ground : PySem.W.makesIn K C_Ground = true)
    (kc_Ground : PySem.W.keepIn K (.ref C_Ground) = true)
    (na_Ground_kind : PySem.W.findIn K (.ref C_Ground) "kind" = some none)
    (na_Ground_text : PySem.W.findIn K (.ref C_Ground) "text" = some none)
    (na_Ground_letters : PySem.W.findIn K (.ref C_Ground) "letters" = some none)
    (na_Ground__names : PySem.W.findIn K (.ref C_Ground) "_names" = some none)
    (na_Ground__numbers : PySem.W.findIn K (.ref C_Ground) "_numbers" = some none)
    (ha_Ground : PySem.W.findIn K (.ref C_Ground) "__class__" = some (some (.builtin "object.__class__")))
    (hn_Ground : PySem.W.specialIn K (.builtin "object.__class__") "__get__" = some (some (.builtin "getset_descriptor.__get__")))
    (ht_Ground : PySem.W.takesIn K (.builtin "object.__class__") = some true)
    (hm_Ground : PySem.W.mroIn K C_Ground (.type "object") = some true)
    (pg_Word : PySem.W.plainGet K C_Word Str.empty = true)
    (hd_Word : PySem.W.hasDictIn K C_Word = true)
    (po_Word : PySem.W.plainOver K C_Word = true)
    (sa_Word : PySem.W.findIn K (.ref C_Word) "__setattr__" = some (some (.builtin "object.__setattr__")))
    (mk_Word : PySem.W.makesIn K C_Word = true)
    (kc_Word : PySem.W.keepIn K (.ref C_Word) = true)
    (na_Word_ground : PySem.W.findIn K (.ref C_Word) "ground" = some none)
    (na_Word_letters : PySem.W.findIn K (.ref C_Word) "letters" = some none)
    (na_Word_text : PySem.W.findIn K (.ref C_Word) "text" = some none)
    (ha_Word : PySem.W.findIn K (.ref C_Word) "__class__" = some (some (.builtin "object.__class__")))
    (hn_Word : PySem.W.specialIn K (.builtin "object.__class__") "__get__" = some (some (.builtin "getset_descriptor.__get__")))
    (ht_Word : PySem.W.takesIn K (.builtin "object.__class__") = some true)
    (hm_Word : PySem.W.mroIn K C_Word (.type "object") = some true)
    (pg_Row : PySem.W.plainGet K C_Row Str.empty = true)
    (hd_Row : PySem.W.hasDictIn K C_Row = true)
    (po_Row : PySem.W.plainOver K C_Row = true)
    (sa_Row : PySem.W.findIn K (.ref C_Row) "__setattr__" = some (some (.builtin "object.__setattr__")))
    (mk_Row : PySem.W.makesIn K C_Row = true)
    (kc_Row : PySem.W.keepIn K (.ref C_Row) = true)
    (na_Row_ground : PySem.W.findIn K (.ref C_Row) "ground" = some none)
    (na_Row_beginning : PySem.W.findIn K (.ref C_Row) "beginning" = some none)
    (na_Row_period : PySem.W.findIn K (.ref C_Row) "period" = some none)
    (na_Row_text : PySem.W.findIn K (.ref C_Row) "text" = some none)
    (ha_Row : PySem.W.findIn K (.ref C_Row) "__class__" = some (some (.builtin "object.__class__")))
    (hn_Row : PySem.W.specialIn K (.builtin "object.__class__") "__get__" = some (some (.builtin "getset_descriptor.__get__")))
    (ht_Row : PySem.W.takesIn K (.builtin "object.__class__") = some true)
    (hm_Row : PySem.W.mroIn K C_Row (.type "object") = some true)
    (ci_Ground : ((PySem.W.clsIn K C_Ground).isSome && PySem.W.typeIn K (.ref C_Ground) == some (.type "type")) = true)
    (ne_Ground : PySem.W.findIn K (.ref C_Ground) "__ne__" = some (some (.builtin "object.__ne__")))
    (st_Ground_NoneType : PySem.W.subIn K (.ref C_Ground) (.type "NoneType") = some false)
    (st_Ground_str : PySem.W.subIn K (.ref C_Ground) (.type "str") = some false)
    (st_Ground_int : PySem.W.subIn K (.ref C_Ground) (.type "int") = some false)
    (st_Ground_tuple : PySem.W.subIn K (.ref C_Ground) (.type "tuple") = some false)
    (sx_Ground_Word : PySem.W.subIn K (.ref C_Ground) (.ref C_Word) = some false)
    (kx_Ground_Word : PySem.W.kitOne K (.ref C_Ground) (.ref C_Word) = some false)
    (sx_Ground_Row : PySem.W.subIn K (.ref C_Ground) (.ref C_Row) = some false)
    (kx_Ground_Row : PySem.W.kitOne K (.ref C_Ground) (.ref C_Row) = some false)
    (ci_Word : ((PySem.W.clsIn K C_Word).isSome && PySem.W.typeIn K (.ref C_Word) == some (.type "type")) = true)
    (ne_Word : PySem.W.findIn K (.ref C_Word) "__ne__" = some (some (.builtin "object.__ne__")))
    (st_Word_NoneType : PySem.W.subIn K (.ref C_Word) (.type "NoneType") = some false)
    (st_Word_str : PySem.W.subIn K (.ref C_Word) (.type "str") = some false)
    (st_Word_int : PySem.W.subIn K (.ref C_Word) (.type "int") = some false)
    (st_Word_tuple : PySem.W.subIn K (.ref C_Word) (.type "tuple") = some false)
    (sx_Word_Ground : PySem.W.subIn K (.ref C_Word) (.ref C_Ground) = some false)
    (kx_Word_Ground : PySem.W.kitOne K (.ref C_Word) (.ref C_Ground) = some false)
    (sx_Word_Row : PySem.W.subIn K (.ref C_Word) (.ref C_Row) = some false)
    (kx_Word_Row : PySem.W.kitOne K (.ref C_Word) (.ref C_Row) = some false)
    (ci_Row : ((PySem.W.clsIn K C_Row).isSome && PySem.W.typeIn K (.ref C_Row) == some (.type "type")) = true)
    (ne_Row : PySem.W.findIn K (.ref C_Row) "__ne__" = some (some (.builtin "object.__ne__")))
    (st_Row_NoneType : PySem.W.subIn K (.ref C_Row) (.type "NoneType") = some false)
    (st_Row_str : PySem.W.subIn K (.ref C_Row) (.type "str") = some false)
    (st_Row_int : PySem.W.subIn K (.ref C_Row) (.type "int") = some false)
    (st_Row_tuple : PySem.W.subIn K (.ref C_Row) (.type "tuple") = some false)
    (sx_Row_Ground : PySem.W.subIn K (.ref C_Row) (.ref C_Ground) = some false)
    (kx_Row_Ground : PySem.W.kitOne K (.ref C_Row) (.ref C_Ground) = some false)
    (sx_Row_Word : PySem.W.subIn K (.ref C_Row) (.ref C_Word) = some false)
    (kx_Row_Word : PySem.W.kitOne K (.ref C_Row) (.ref C_Word) = some false)
    (w_RESERVED : PySem.W.nsIn K mainGlobals "RESERVED" = some (some (.ref D_RESERVED)))
    (wd_RESERVED : He.dicW K D_RESERVED = some (He.keysIn w.params ["yes", "no", "not", "next", "soon", "always", "again", "atlast", "and", "or", "then", "same", "until", "unless"]))
    (z_all : PySem.W.nsIn K mainGlobals "all" = some none)
    (z_bool : PySem.W.nsIn K mainGlobals "bool" = some none)
    (z_dict : PySem.W.nsIn K mainGlobals "dict" = some none)
    (z_enumerate : PySem.W.nsIn K mainGlobals "enumerate" = some none)
    (z_int : PySem.W.nsIn K mainGlobals "int" = some none)
    (z_isinstance : PySem.W.nsIn K mainGlobals "isinstance" = some none)
    (z_len : PySem.W.nsIn K mainGlobals "len" = some none)
    (z_list : PySem.W.nsIn K mainGlobals "list" = some none)
    (z_range : PySem.W.nsIn K mainGlobals "range" = some none)
    (z_repr : PySem.W.nsIn K mainGlobals "repr" = some none)
    (z_str : PySem.W.nsIn K mainGlobals "str" = some none)
    (z_tuple : PySem.W.nsIn K mainGlobals "tuple" = some none)
    (z_zip : PySem.W.nsIn K mainGlobals "zip" = some none)
    (q_MOST_CHARACTERS : PySem.W.nsIn K mainGlobals "MOST_CHARACTERS" = some (some (.int 40000 tk_MOST_CHARACTERS)))
    (q_FIRST_SIGNS : PySem.W.nsIn K mainGlobals "FIRST_SIGNS" = some (some (.str "abcdefghijklmnopqrstuvwxyz" tk_FIRST_SIGNS)))
    (q_SIGNS : PySem.W.nsIn K mainGlobals "SIGNS" = some (some (.str "abcdefghijklmnopqrstuvwxyz0123456789" tk_SIGNS)))
    (q_MOST_LETTERS : PySem.W.nsIn K mainGlobals "MOST_LETTERS" = some (some (.int 6 tk_MOST_LETTERS)))
    (q_MOST_EVENTS : PySem.W.nsIn K mainGlobals "MOST_EVENTS" = some (some (.int 3 tk_MOST_EVENTS)))
    (q_MOST_IN_WORD : PySem.W.nsIn K mainGlobals "MOST_IN_WORD" = some (some (.int 40 tk_MOST_IN_WORD)))
    (q_MOST_IN_ROUND : PySem.W.nsIn K mainGlobals "MOST_IN_ROUND" = some (some (.int 20 tk_MOST_IN_ROUND))) :
    ∃ fd : FuncData, (∀ (s : Shared) (v : Value), BindsTo s fd ⟨[v], []⟩ [("script", v)]) ∧ ∀ base : Heap, K.In base → base.Ns mainGlobals mg → FnOk l.prog w K mg base CX0 13 fa fd ["script"] (lift K 1 sp_law) := by
  have e := hfa.symm.trans (PySem.W.mg_of X G a43)
  cases e
  have F0 := fun_mk (st := s_right_name) l0 c0 k0
  have b0 := F0.binds (ps := ["value"]) fun _ _ _ _ _ _ us hl => match us, hl with | [_], _ => rfl
  have F1 := fun_mk (st := s_check_length) l1 c1 k1
  have b1 := F1.binds (ps := ["text"]) fun _ _ _ _ _ _ us hl => match us, hl with | [_], _ => rfl
  have F2 := fun_mk (st := s_split_words) l2 c2 k2
  have b2 := F2.binds (ps := ["text"]) fun _ _ _ _ _ _ us hl => match us, hl with | [_], _ => rfl
  have F3 := fun_mk (st := s__event_sets) l3 c3 k3
  have b3 := F3.binds (ps := ["events"]) fun _ _ _ _ _ _ us hl => match us, hl with | [_], _ => rfl
  have F4 := fun_mk (st := s__read_ground) l4 c4 k4
  have b4 := F4.binds (ps := ["line"]) fun _ _ _ _ _ _ us hl => match us, hl with | [_], _ => rfl
  have F5 := fun_mk (st := s_Ground___init__) l5 c5 k5
  have b5 := F5.binds (ps := ["self", "line"]) fun _ _ _ _ _ _ us hl => match us, hl with | [_, _], _ => rfl
  have F6 := fun_mk (st := s_Ground_number) l6 c6 k6
  have b6 := F6.binds (ps := ["self", "letter"]) fun _ _ _ _ _ _ us hl => match us, hl with | [_, _], _ => rfl
  have F7 := fun_mk (st := s_Ground___eq__) l7 c7 k7
  have b7 := F7.binds (ps := ["self", "other"]) fun _ _ _ _ _ _ us hl => match us, hl with | [_, _], _ => rfl
  have F8 := fun_mk (st := s__read_letters) l8 c8 k8
  have b8 := F8.binds (ps := ["ground", "parts", "start"]) fun _ _ _ _ _ _ us hl => match us, hl with | [_, _, _], _ => rfl
  have F9 := fun_mk (st := s__read_word) l9 c9 k9
  have b9 := F9.binds (ps := ["ground", "text"]) fun _ _ _ _ _ _ us hl => match us, hl with | [_, _], _ => rfl
  have F10 := fun_mk (st := s__written) l10 c10 k10
  have b10 := F10.binds (ps := ["ground", "letters"]) fun _ _ _ _ _ _ us hl => match us, hl with | [_, _], _ => rfl
  have F11 := fun_mk (st := s__word) l11 c11 k11
  have b11 := F11.binds (ps := ["ground", "letters"]) fun _ _ _ _ _ _ us hl => match us, hl with | [_, _], _ => rfl
  have F12 := fun_mk (st := s_Word___init__) l12 c12 k12
  have b12 := F12.binds (ps := ["self", "ground", "text"]) fun _ _ _ _ _ _ us hl => match us, hl with | [_, _, _], _ => rfl
  have F13 := fun_mk (st := s_Word___eq__) l13 c13 k13
  have b13 := F13.binds (ps := ["self", "other"]) fun _ _ _ _ _ _ us hl => match us, hl with | [_, _], _ => rfl
  have F14 := fun_mk (st := s__read_row) l14 c14 k14
  have b14 := F14.binds (ps := ["ground", "text"]) fun _ _ _ _ _ _ us hl => match us, hl with | [_, _], _ => rfl
  have F15 := fun_mk (st := s__least) l15 c15 k15
  have b15 := F15.binds (ps := ["beginning", "period"]) fun _ _ _ _ _ _ us hl => match us, hl with | [_, _], _ => rfl
  have F16 := fun_mk (st := s__row) l16 c16 k16
  have b16 := F16.binds (ps := ["ground", "beginning", "period"]) fun _ _ _ _ _ _ us hl => match us, hl with | [_, _, _], _ => rfl
  have F17 := fun_mk (st := s__row_text) l17 c17 k17
  have b17 := F17.binds (ps := ["ground", "beginning", "period"]) fun _ _ _ _ _ _ us hl => match us, hl with | [_, _, _], _ => rfl
  have F18 := fun_mk (st := s_Row___init__) l18 c18 k18
  have b18 := F18.binds (ps := ["self", "ground", "text"]) fun _ _ _ _ _ _ us hl => match us, hl with | [_, _, _], _ => rfl
  have F19 := fun_mk (st := s_Row_of) l19 c19 k19
  have b19 := F19.binds (ps := ["beginning", "period"]) fun _ _ _ _ _ _ us hl => match us, hl with | [_, _], _ => rfl
  have F20 := fun_mk (st := s_Row_letter) l20 c20 k20
  have b20 := F20.binds (ps := ["self", "place"]) fun _ _ _ _ _ _ us hl => match us, hl with | [_, _], _ => rfl
  have F21 := fun_mk (st := s_Row_first) l21 c21 k21
  have b21 := F21.binds (ps := ["self", "count"]) fun _ _ _ _ _ _ us hl => match us, hl with | [_, _], _ => rfl
  have F22 := fun_mk (st := s_Row_upto) l22 c22 k22
  have b22 := F22.binds (ps := ["self", "count"]) fun _ _ _ _ _ _ us hl => match us, hl with | [_, _], _ => rfl
  have F23 := fun_mk (st := s_Row___eq__) l23 c23 k23
  have b23 := F23.binds (ps := ["self", "other"]) fun _ _ _ _ _ _ us hl => match us, hl with | [_, _], _ => rfl
  have F24 := fun_mk (st := s_Row___repr__) l24 c24 k24
  have b24 := F24.binds (ps := ["self"]) fun _ _ _ _ _ _ us hl => match us, hl with | [_], _ => rfl
  have F25 := fun_mk (st := s__law_bag) l25 c25 k25
  have b25 := F25.binds (ps := ["script"]) fun _ _ _ _ _ _ us hl => match us, hl with | [_], _ => rfl
  have F26 := fun_mk (st := s__law_draw) l26 c26 k26
  have b26 := F26.binds (ps := ["bag", "limit"]) fun _ _ _ _ _ _ us hl => match us, hl with | [_, _], _ => rfl
  have F27 := fun_mk (st := s__law_of) l27 c27 k27
  have b27 := F27.binds (ps := ["bag", "things"]) fun _ _ _ _ _ _ us hl => match us, hl with | [_, _], _ => rfl
  have F28 := fun_mk (st := s__law_kept) l28 c28 k28
  have b28 := F28.binds (ps := []) fun _ _ _ _ _ _ us hl => match us, hl with | [], _ => rfl
  have F29 := fun_mk (st := s__law_name) l29 c29 k29
  have b29 := F29.binds (ps := ["bag"]) fun _ _ _ _ _ _ us hl => match us, hl with | [_], _ => rfl
  have F30 := fun_mk (st := s__law_fresh) l30 c30 k30
  have b30 := F30.binds (ps := ["bag", "times", "taken"]) fun _ _ _ _ _ _ us hl => match us, hl with | [_, _, _], _ => rfl
  have F31 := fun_mk (st := s__law_written) l31 c31 k31
  have b31 := F31.binds (ps := ["kind", "names"]) fun _ _ _ _ _ _ us hl => match us, hl with | [_, _], _ => rfl
  have F32 := fun_mk (st := s__law_wide) l32 c32 k32
  have b32 := F32.binds (ps := ["bag"]) fun _ _ _ _ _ _ us hl => match us, hl with | [_], _ => rfl
  have F33 := fun_mk (st := s__law_text) l33 c33 k33
  have b33 := F33.binds (ps := ["signs", "path"]) fun _ _ _ _ _ _ us hl => match us, hl with | [_, _], _ => rfl
  have F34 := fun_mk (st := s__law_item_text) l34 c34 k34
  have b34 := F34.binds (ps := ["signs", "item"]) fun _ _ _ _ _ _ us hl => match us, hl with | [_, _], _ => rfl
  have F35 := fun_mk (st := s__law_least) l35 c35 k35
  have b35 := F35.binds (ps := ["path"]) fun _ _ _ _ _ _ us hl => match us, hl with | [_], _ => rfl
  have F36 := fun_mk (st := s__law_like) l36 c36 k36
  have b36 := F36.binds (ps := ["told", "due"]) fun _ _ _ _ _ _ us hl => match us, hl with | [_, _], _ => rfl
  have F37 := fun_mk (st := s__law_path) l37 c37 k37
  have b37 := F37.binds (ps := ["bag", "size"]) fun _ _ _ _ _ _ us hl => match us, hl with | [_, _], _ => rfl
  have F38 := fun_mk (st := s__law_near) l38 c38 k38
  have b38 := F38.binds (ps := ["bag", "path", "size"]) fun _ _ _ _ _ _ us hl => match us, hl with | [_, _, _], _ => rfl
  have F39 := fun_mk (st := s__law_other) l39 c39 k39
  have b39 := F39.binds (ps := ["bag", "path"]) fun _ _ _ _ _ _ us hl => match us, hl with | [_, _], _ => rfl
  have F40 := fun_mk (st := s__law_at) l40 c40 k40
  have b40 := F40.binds (ps := ["path", "spot"]) fun _ _ _ _ _ _ us hl => match us, hl with | [_, _], _ => rfl
  have F41 := fun_mk (st := s__law_row_so) l41 c41 k41
  have b41 := F41.binds (ps := ["bag", "told", "gr", "signs", "due"]) fun _ _ _ _ _ _ us hl => match us, hl with | [_, _, _, _, _], _ => rfl
  have F42 := fun_mk (st := s__law_alike) l42 c42 k42
  have b42 := F42.binds (ps := ["one_row", "two_row", "due"]) fun _ _ _ _ _ _ us hl => match us, hl with | [_, _, _], _ => rfl
  have F43 := fun_mk (st := s_law) l43 c43 k43
  have b43 := F43.binds (ps := ["script"]) fun _ _ _ _ _ _ us hl => match us, hl with | [_], _ => rfl
  have CL_Ground : Cls K C_Ground := ⟨pg_Ground, hd_Ground, po_Ground, sa_Ground⟩
  have CL_Word : Cls K C_Word := ⟨pg_Word, hd_Word, po_Word, sa_Word⟩
  have CL_Row : Cls K C_Row := ⟨pg_Row, hd_Row, po_Row, sa_Row⟩
  have T : TX w K mg ⟨f0, (PySem.W.fnOf "right_name" "right_name" (defArgs s_right_name) (defBody s_right_name) (defScope s_right_name) .none kV0 dc0 pm0 an0 cd0 ct0), f1, (PySem.W.fnOf "check_length" "check_length" (defArgs s_check_length) (defBody s_check_length) (defScope s_check_length) .none kV1 dc1 pm1 an1 cd1 ct1), f2, (PySem.W.fnOf "split_words" "split_words" (defArgs s_split_words) (defBody s_split_words) (defScope s_split_words) .none kV2 dc2 pm2 an2 cd2 ct2), f3, (PySem.W.fnOf "_event_sets" "_event_sets" (defArgs s__event_sets) (defBody s__event_sets) (defScope s__event_sets) .none kV3 dc3 pm3 an3 cd3 ct3), f4, (PySem.W.fnOf "_read_ground" "_read_ground" (defArgs s__read_ground) (defBody s__read_ground) (defScope s__read_ground) .none kV4 dc4 pm4 an4 cd4 ct4), f5, (PySem.W.fnOf "__init__" "Ground.__init__" (defArgs s_Ground___init__) (defBody s_Ground___init__) (defScope s_Ground___init__) .none kV5 dc5 pm5 an5 cd5 ct5), f6, (PySem.W.fnOf "number" "Ground.number" (defArgs s_Ground_number) (defBody s_Ground_number) (defScope s_Ground_number) .none kV6 dc6 pm6 an6 cd6 ct6), f7, (PySem.W.fnOf "__eq__" "Ground.__eq__" (defArgs s_Ground___eq__) (defBody s_Ground___eq__) (defScope s_Ground___eq__) .none kV7 dc7 pm7 an7 cd7 ct7), f8, (PySem.W.fnOf "_read_letters" "_read_letters" (defArgs s__read_letters) (defBody s__read_letters) (defScope s__read_letters) .none kV8 dc8 pm8 an8 cd8 ct8), f9, (PySem.W.fnOf "_read_word" "_read_word" (defArgs s__read_word) (defBody s__read_word) (defScope s__read_word) .none kV9 dc9 pm9 an9 cd9 ct9), f10, (PySem.W.fnOf "_written" "_written" (defArgs s__written) (defBody s__written) (defScope s__written) .none kV10 dc10 pm10 an10 cd10 ct10), f11, (PySem.W.fnOf "_word" "_word" (defArgs s__word) (defBody s__word) (defScope s__word) .none kV11 dc11 pm11 an11 cd11 ct11), f12, (PySem.W.fnOf "__init__" "Word.__init__" (defArgs s_Word___init__) (defBody s_Word___init__) (defScope s_Word___init__) .none kV12 dc12 pm12 an12 cd12 ct12), f13, (PySem.W.fnOf "__eq__" "Word.__eq__" (defArgs s_Word___eq__) (defBody s_Word___eq__) (defScope s_Word___eq__) .none kV13 dc13 pm13 an13 cd13 ct13), f14, (PySem.W.fnOf "_read_row" "_read_row" (defArgs s__read_row) (defBody s__read_row) (defScope s__read_row) .none kV14 dc14 pm14 an14 cd14 ct14), f15, (PySem.W.fnOf "_least" "_least" (defArgs s__least) (defBody s__least) (defScope s__least) .none kV15 dc15 pm15 an15 cd15 ct15), f16, (PySem.W.fnOf "_row" "_row" (defArgs s__row) (defBody s__row) (defScope s__row) .none kV16 dc16 pm16 an16 cd16 ct16), f17, (PySem.W.fnOf "_row_text" "_row_text" (defArgs s__row_text) (defBody s__row_text) (defScope s__row_text) .none kV17 dc17 pm17 an17 cd17 ct17), f18, (PySem.W.fnOf "__init__" "Row.__init__" (defArgs s_Row___init__) (defBody s_Row___init__) (defScope s_Row___init__) .none kV18 dc18 pm18 an18 cd18 ct18), f19, (PySem.W.fnOf "of" "Row.of" (defArgs s_Row_of) (defBody s_Row_of) (defScope s_Row_of) .none kV19 dc19 pm19 an19 cd19 ct19), f20, (PySem.W.fnOf "letter" "Row.letter" (defArgs s_Row_letter) (defBody s_Row_letter) (defScope s_Row_letter) .none kV20 dc20 pm20 an20 cd20 ct20), f21, (PySem.W.fnOf "first" "Row.first" (defArgs s_Row_first) (defBody s_Row_first) (defScope s_Row_first) .none kV21 dc21 pm21 an21 cd21 ct21), f22, (PySem.W.fnOf "upto" "Row.upto" (defArgs s_Row_upto) (defBody s_Row_upto) (defScope s_Row_upto) .none kV22 dc22 pm22 an22 cd22 ct22), f23, (PySem.W.fnOf "__eq__" "Row.__eq__" (defArgs s_Row___eq__) (defBody s_Row___eq__) (defScope s_Row___eq__) .none kV23 dc23 pm23 an23 cd23 ct23), f24, (PySem.W.fnOf "__repr__" "Row.__repr__" (defArgs s_Row___repr__) (defBody s_Row___repr__) (defScope s_Row___repr__) .none kV24 dc24 pm24 an24 cd24 ct24), f25, (PySem.W.fnOf "_law_bag" "_law_bag" (defArgs s__law_bag) (defBody s__law_bag) (defScope s__law_bag) .none kV25 dc25 pm25 an25 cd25 ct25), f26, (PySem.W.fnOf "_law_draw" "_law_draw" (defArgs s__law_draw) (defBody s__law_draw) (defScope s__law_draw) .none kV26 dc26 pm26 an26 cd26 ct26), f27, (PySem.W.fnOf "_law_of" "_law_of" (defArgs s__law_of) (defBody s__law_of) (defScope s__law_of) .none kV27 dc27 pm27 an27 cd27 ct27), f28, (PySem.W.fnOf "_law_kept" "_law_kept" (defArgs s__law_kept) (defBody s__law_kept) (defScope s__law_kept) .none kV28 dc28 pm28 an28 cd28 ct28), f29, (PySem.W.fnOf "_law_name" "_law_name" (defArgs s__law_name) (defBody s__law_name) (defScope s__law_name) .none kV29 dc29 pm29 an29 cd29 ct29), f30, (PySem.W.fnOf "_law_fresh" "_law_fresh" (defArgs s__law_fresh) (defBody s__law_fresh) (defScope s__law_fresh) .none kV30 dc30 pm30 an30 cd30 ct30), f31, (PySem.W.fnOf "_law_written" "_law_written" (defArgs s__law_written) (defBody s__law_written) (defScope s__law_written) .none kV31 dc31 pm31 an31 cd31 ct31), f32, (PySem.W.fnOf "_law_wide" "_law_wide" (defArgs s__law_wide) (defBody s__law_wide) (defScope s__law_wide) .none kV32 dc32 pm32 an32 cd32 ct32), f33, (PySem.W.fnOf "_law_text" "_law_text" (defArgs s__law_text) (defBody s__law_text) (defScope s__law_text) .none kV33 dc33 pm33 an33 cd33 ct33), f34, (PySem.W.fnOf "_law_item_text" "_law_item_text" (defArgs s__law_item_text) (defBody s__law_item_text) (defScope s__law_item_text) .none kV34 dc34 pm34 an34 cd34 ct34), f35, (PySem.W.fnOf "_law_least" "_law_least" (defArgs s__law_least) (defBody s__law_least) (defScope s__law_least) .none kV35 dc35 pm35 an35 cd35 ct35), f36, (PySem.W.fnOf "_law_like" "_law_like" (defArgs s__law_like) (defBody s__law_like) (defScope s__law_like) .none kV36 dc36 pm36 an36 cd36 ct36), f37, (PySem.W.fnOf "_law_path" "_law_path" (defArgs s__law_path) (defBody s__law_path) (defScope s__law_path) .none kV37 dc37 pm37 an37 cd37 ct37), f38, (PySem.W.fnOf "_law_near" "_law_near" (defArgs s__law_near) (defBody s__law_near) (defScope s__law_near) .none kV38 dc38 pm38 an38 cd38 ct38), f39, (PySem.W.fnOf "_law_other" "_law_other" (defArgs s__law_other) (defBody s__law_other) (defScope s__law_other) .none kV39 dc39 pm39 an39 cd39 ct39), f40, (PySem.W.fnOf "_law_at" "_law_at" (defArgs s__law_at) (defBody s__law_at) (defScope s__law_at) .none kV40 dc40 pm40 an40 cd40 ct40), f41, (PySem.W.fnOf "_law_row_so" "_law_row_so" (defArgs s__law_row_so) (defBody s__law_row_so) (defScope s__law_row_so) .none kV41 dc41 pm41 an41 cd41 ct41), f42, (PySem.W.fnOf "_law_alike" "_law_alike" (defArgs s__law_alike) (defBody s__law_alike) (defScope s__law_alike) .none kV42 dc42 pm42 an42 cd42 ct42), fa, (PySem.W.fnOf "law" "law" (defArgs s_law) (defBody s_law) (defScope s_law) .none kV43 dc43 pm43 an43 cd43 ct43), C_Ground, C_Word, C_Row, D_RESERVED, pst19⟩ := {
    fn_right_name := F0,
    bd_right_name := b0,
    mg_right_name := PySem.W.mg_of X G a0,
    kp_right_name := k0,
    fn_check_length := F1,
    bd_check_length := b1,
    mg_check_length := PySem.W.mg_of X G a1,
    kp_check_length := k1,
    fn_split_words := F2,
    bd_split_words := b2,
    mg_split_words := PySem.W.mg_of X G a2,
    kp_split_words := k2,
    fn__event_sets := F3,
    bd__event_sets := b3,
    mg__event_sets := PySem.W.mg_of X G a3,
    kp__event_sets := k3,
    fn__read_ground := F4,
    bd__read_ground := b4,
    mg__read_ground := PySem.W.mg_of X G a4,
    kp__read_ground := k4,
    fn_Ground___init__ := F5,
    bd_Ground___init__ := b5,
    fn_Ground_number := F6,
    bd_Ground_number := b6,
    me_Ground_number := ⟨a6, i6, k6⟩,
    fn_Ground___eq__ := F7,
    bd_Ground___eq__ := b7,
    me_Ground___eq__ := ⟨a7, i7, k7⟩,
    fn__read_letters := F8,
    bd__read_letters := b8,
    mg__read_letters := PySem.W.mg_of X G a8,
    kp__read_letters := k8,
    fn__read_word := F9,
    bd__read_word := b9,
    mg__read_word := PySem.W.mg_of X G a9,
    kp__read_word := k9,
    fn__written := F10,
    bd__written := b10,
    mg__written := PySem.W.mg_of X G a10,
    kp__written := k10,
    fn__word := F11,
    bd__word := b11,
    mg__word := PySem.W.mg_of X G a11,
    kp__word := k11,
    fn_Word___init__ := F12,
    bd_Word___init__ := b12,
    fn_Word___eq__ := F13,
    bd_Word___eq__ := b13,
    me_Word___eq__ := ⟨a13, i13, k13⟩,
    fn__read_row := F14,
    bd__read_row := b14,
    mg__read_row := PySem.W.mg_of X G a14,
    kp__read_row := k14,
    fn__least := F15,
    bd__least := b15,
    mg__least := PySem.W.mg_of X G a15,
    kp__least := k15,
    fn__row := F16,
    bd__row := b16,
    mg__row := PySem.W.mg_of X G a16,
    kp__row := k16,
    fn__row_text := F17,
    bd__row_text := b17,
    mg__row_text := PySem.W.mg_of X G a17,
    kp__row_text := k17,
    fn_Row___init__ := F18,
    bd_Row___init__ := b18,
    fn_Row_of := F19,
    bd_Row_of := b19,
    sm_Row_of := ⟨rd19, ga19, a19, ⟨_, i19⟩, k19⟩,
    fn_Row_letter := F20,
    bd_Row_letter := b20,
    me_Row_letter := ⟨a20, i20, k20⟩,
    fn_Row_first := F21,
    bd_Row_first := b21,
    me_Row_first := ⟨a21, i21, k21⟩,
    fn_Row_upto := F22,
    bd_Row_upto := b22,
    me_Row_upto := ⟨a22, i22, k22⟩,
    fn_Row___eq__ := F23,
    bd_Row___eq__ := b23,
    me_Row___eq__ := ⟨a23, i23, k23⟩,
    fn_Row___repr__ := F24,
    bd_Row___repr__ := b24,
    me_Row___repr__ := ⟨a24, i24, k24⟩,
    fn__law_bag := F25,
    bd__law_bag := b25,
    mg__law_bag := PySem.W.mg_of X G a25,
    kp__law_bag := k25,
    fn__law_draw := F26,
    bd__law_draw := b26,
    mg__law_draw := PySem.W.mg_of X G a26,
    kp__law_draw := k26,
    fn__law_of := F27,
    bd__law_of := b27,
    mg__law_of := PySem.W.mg_of X G a27,
    kp__law_of := k27,
    fn__law_kept := F28,
    bd__law_kept := b28,
    mg__law_kept := PySem.W.mg_of X G a28,
    kp__law_kept := k28,
    fn__law_name := F29,
    bd__law_name := b29,
    mg__law_name := PySem.W.mg_of X G a29,
    kp__law_name := k29,
    fn__law_fresh := F30,
    bd__law_fresh := b30,
    mg__law_fresh := PySem.W.mg_of X G a30,
    kp__law_fresh := k30,
    fn__law_written := F31,
    bd__law_written := b31,
    mg__law_written := PySem.W.mg_of X G a31,
    kp__law_written := k31,
    fn__law_wide := F32,
    bd__law_wide := b32,
    mg__law_wide := PySem.W.mg_of X G a32,
    kp__law_wide := k32,
    fn__law_text := F33,
    bd__law_text := b33,
    mg__law_text := PySem.W.mg_of X G a33,
    kp__law_text := k33,
    fn__law_item_text := F34,
    bd__law_item_text := b34,
    mg__law_item_text := PySem.W.mg_of X G a34,
    kp__law_item_text := k34,
    fn__law_least := F35,
    bd__law_least := b35,
    mg__law_least := PySem.W.mg_of X G a35,
    kp__law_least := k35,
    fn__law_like := F36,
    bd__law_like := b36,
    mg__law_like := PySem.W.mg_of X G a36,
    kp__law_like := k36,
    fn__law_path := F37,
    bd__law_path := b37,
    mg__law_path := PySem.W.mg_of X G a37,
    kp__law_path := k37,
    fn__law_near := F38,
    bd__law_near := b38,
    mg__law_near := PySem.W.mg_of X G a38,
    kp__law_near := k38,
    fn__law_other := F39,
    bd__law_other := b39,
    mg__law_other := PySem.W.mg_of X G a39,
    kp__law_other := k39,
    fn__law_at := F40,
    bd__law_at := b40,
    mg__law_at := PySem.W.mg_of X G a40,
    kp__law_at := k40,
    fn__law_row_so := F41,
    bd__law_row_so := b41,
    mg__law_row_so := PySem.W.mg_of X G a41,
    kp__law_row_so := k41,
    fn__law_alike := F42,
    bd__law_alike := b42,
    mg__law_alike := PySem.W.mg_of X G a42,
    kp__law_alike := k42,
    fn_law := F43,
    bd_law := b43,
    mg_law := PySem.W.mg_of X G a43,
    kp_law := k43,
    mg_RESERVED := PySem.W.mg_of X G w_RESERVED,
    kd_RESERVED := kdt_of wd_RESERVED,
    oc_Ground := ⟨CL_Ground, ha_Ground, hn_Ground, ht_Ground, hm_Ground⟩,
    ci_Ground := ⟨ci_Ground⟩,
    ne_Ground := ne_Ground,
    st_Ground := by simp only [List.forall_mem_cons]; exact ⟨st_Ground_NoneType, st_Ground_str, st_Ground_int, st_Ground_tuple, fun _ h => by simp at h⟩,
    sx_Ground_Word := sx_Ground_Word,
    kx_Ground_Word := kx_Ground_Word,
    sx_Ground_Row := sx_Ground_Row,
    kx_Ground_Row := kx_Ground_Row,
    oc_Word := ⟨CL_Word, ha_Word, hn_Word, ht_Word, hm_Word⟩,
    ci_Word := ⟨ci_Word⟩,
    ne_Word := ne_Word,
    st_Word := by simp only [List.forall_mem_cons]; exact ⟨st_Word_NoneType, st_Word_str, st_Word_int, st_Word_tuple, fun _ h => by simp at h⟩,
    sx_Word_Ground := sx_Word_Ground,
    kx_Word_Ground := kx_Word_Ground,
    sx_Word_Row := sx_Word_Row,
    kx_Word_Row := kx_Word_Row,
    oc_Row := ⟨CL_Row, ha_Row, hn_Row, ht_Row, hm_Row⟩,
    ci_Row := ⟨ci_Row⟩,
    ne_Row := ne_Row,
    st_Row := by simp only [List.forall_mem_cons]; exact ⟨st_Row_NoneType, st_Row_str, st_Row_int, st_Row_tuple, fun _ h => by simp at h⟩,
    sx_Row_Ground := sx_Row_Ground,
    kx_Row_Ground := kx_Row_Ground,
    sx_Row_Word := sx_Row_Word,
    kx_Row_Word := kx_Row_Word,
    mg_Ground := PySem.W.mg_of X G aC_Ground,
    cl_Ground := CL_Ground,
    mk_Ground := ⟨mk_Ground, a5, i5, kc_Ground⟩,
    na_Ground_kind := na_Ground_kind,
    na_Ground_text := na_Ground_text,
    na_Ground_letters := na_Ground_letters,
    na_Ground__names := na_Ground__names,
    na_Ground__numbers := na_Ground__numbers,
    mg_Word := PySem.W.mg_of X G aC_Word,
    cl_Word := CL_Word,
    mk_Word := ⟨mk_Word, a12, i12, kc_Word⟩,
    na_Word_ground := na_Word_ground,
    na_Word_letters := na_Word_letters,
    na_Word_text := na_Word_text,
    mg_Row := PySem.W.mg_of X G aC_Row,
    cl_Row := CL_Row,
    mk_Row := ⟨mk_Row, a18, i18, kc_Row⟩,
    na_Row_ground := na_Row_ground,
    na_Row_beginning := na_Row_beginning,
    na_Row_period := na_Row_period,
    na_Row_text := na_Row_text,
    b_all := PySem.W.mg_none_of X G z_all,
    b_bool := PySem.W.mg_none_of X G z_bool,
    b_dict := PySem.W.mg_none_of X G z_dict,
    b_enumerate := PySem.W.mg_none_of X G z_enumerate,
    b_int := PySem.W.mg_none_of X G z_int,
    b_isinstance := PySem.W.mg_none_of X G z_isinstance,
    b_len := PySem.W.mg_none_of X G z_len,
    b_list := PySem.W.mg_none_of X G z_list,
    b_range := PySem.W.mg_none_of X G z_range,
    b_repr := PySem.W.mg_none_of X G z_repr,
    b_str := PySem.W.mg_none_of X G z_str,
    b_tuple := PySem.W.mg_none_of X G z_tuple,
    b_zip := PySem.W.mg_none_of X G z_zip,
    c_MOST_CHARACTERS := ⟨_, PySem.W.mg_of X G q_MOST_CHARACTERS⟩,
    c_FIRST_SIGNS := ⟨_, PySem.W.mg_of X G q_FIRST_SIGNS⟩,
    c_SIGNS := ⟨_, PySem.W.mg_of X G q_SIGNS⟩,
    c_MOST_LETTERS := ⟨_, PySem.W.mg_of X G q_MOST_LETTERS⟩,
    c_MOST_EVENTS := ⟨_, PySem.W.mg_of X G q_MOST_EVENTS⟩,
    c_MOST_IN_WORD := ⟨_, PySem.W.mg_of X G q_MOST_IN_WORD⟩,
    c_MOST_IN_ROUND := ⟨_, PySem.W.mg_of X G q_MOST_IN_ROUND⟩,
    kb_Row_of_k_0_period_beginning := kbn_Row_of_k_0_period_beginning,
    kb_Row_first_k_1_count := kbn_Row_first_k_1_count,
    kb_Row_upto_k_1_count := kbn_Row_upto_k_1_count,
    kb_Row_letter_k_1_place := kbn_Row_letter_k_1_place,
    kb_Row___init___k_1_text_ground := kbn_Row___init___k_1_text_ground }
  exact ⟨(PySem.W.fnOf "law" "law" (defArgs s_law) (defBody s_law) (defScope s_law) .none kV43 dc43 pm43 an43 cd43 ct43), fun s v => .of_eq rfl, fun base _ _ => ok_law T⟩

end
end L29

end

open PySem PySem.W PyProof.Rows
set_option maxHeartbeats 0 in
theorem PySem.Challenge.cw_sameforever_k00_rows_in_their_least_writ_holds : PySem.Challenge.rw_sameforever_k00_rows_in_their_least_writ.Holds := by
  w_on; o_law; k_head; (case hw => w_witness2)
  k_fill
  refine L2.walk_of (l := PySem.Challenge.rw_sameforever_k00_rows_in_their_least_writ) (n := 63) (k := 13) (x := "script") (CX := fun _ => L2.CX0) (sp := fun w => DL.lift _ 1 L29.sp_law) rfl (by decide) rfl ⟨rfl, by decide, by decide⟩ (fun w h Y => PySem.W.kIn_of Y) ?F (fun w H a ns hl hO hS => L29.law_in hl hO hS) (fun _ _ _ _ _ h => h)
  case F =>
    intro w mg fa h KX G hmg
    refine' L29.all_mk KX G hmg ?aC_Ground ?aC_Word ?aC_Row ?a0 ?l0 ?c0 ?k0 ?a1 ?l1 ?c1 ?k1 ?a2 ?l2 ?c2 ?k2 ?a3 ?l3 ?c3 ?k3 ?a4 ?l4 ?c4 ?k4 ?a5 ?i5 ?l5 ?c5 ?k5 ?a6 ?i6 ?l6 ?c6 ?k6 ?a7 ?i7 ?l7 ?c7 ?k7 ?a8 ?l8 ?c8 ?k8 ?a9 ?l9 ?c9 ?k9 ?a10 ?l10 ?c10 ?k10 ?a11 ?l11 ?c11 ?k11 ?a12 ?i12 ?l12 ?c12 ?k12 ?a13 ?i13 ?l13 ?c13 ?k13 ?a14 ?l14 ?c14 ?k14 ?a15 ?l15 ?c15 ?k15 ?a16 ?l16 ?c16 ?k16 ?a17 ?l17 ?c17 ?k17 ?a18 ?i18 ?l18 ?c18 ?k18 ?a19 ?i19 ?rd19 ?ga19 ?l19 ?c19 ?k19 ?a20 ?i20 ?l20 ?c20 ?k20 ?a21 ?i21 ?l21 ?c21 ?k21 ?a22 ?i22 ?l22 ?c22 ?k22 ?a23 ?i23 ?l23 ?c23 ?k23 ?a24 ?i24 ?l24 ?c24 ?k24 ?a25 ?l25 ?c25 ?k25 ?a26 ?l26 ?c26 ?k26 ?a27 ?l27 ?c27 ?k27 ?a28 ?l28 ?c28 ?k28 ?a29 ?l29 ?c29 ?k29 ?a30 ?l30 ?c30 ?k30 ?a31 ?l31 ?c31 ?k31 ?a32 ?l32 ?c32 ?k32 ?a33 ?l33 ?c33 ?k33 ?a34 ?l34 ?c34 ?k34 ?a35 ?l35 ?c35 ?k35 ?a36 ?l36 ?c36 ?k36 ?a37 ?l37 ?c37 ?k37 ?a38 ?l38 ?c38 ?k38 ?a39 ?l39 ?c39 ?k39 ?a40 ?l40 ?c40 ?k40 ?a41 ?l41 ?c41 ?k41 ?a42 ?l42 ?c42 ?k42 ?a43 ?l43 ?c43 ?k43 ?pg_Ground ?hd_Ground ?po_Ground ?sa_Ground ?mk_Ground ?kc_Ground ?na_Ground_kind ?na_Ground_text ?na_Ground_letters ?na_Ground__names ?na_Ground__numbers ?ha_Ground ?hn_Ground ?ht_Ground ?hm_Ground ?pg_Word ?hd_Word ?po_Word ?sa_Word ?mk_Word ?kc_Word ?na_Word_ground ?na_Word_letters ?na_Word_text ?ha_Word ?hn_Word ?ht_Word ?hm_Word ?pg_Row ?hd_Row ?po_Row ?sa_Row ?mk_Row ?kc_Row ?na_Row_ground ?na_Row_beginning ?na_Row_period ?na_Row_text ?ha_Row ?hn_Row ?ht_Row ?hm_Row ?ci_Ground ?ne_Ground ?st_Ground_NoneType ?st_Ground_str ?st_Ground_int ?st_Ground_tuple ?sx_Ground_Word ?kx_Ground_Word ?sx_Ground_Row ?kx_Ground_Row ?ci_Word ?ne_Word ?st_Word_NoneType ?st_Word_str ?st_Word_int ?st_Word_tuple ?sx_Word_Ground ?kx_Word_Ground ?sx_Word_Row ?kx_Word_Row ?ci_Row ?ne_Row ?st_Row_NoneType ?st_Row_str ?st_Row_int ?st_Row_tuple ?sx_Row_Ground ?kx_Row_Ground ?sx_Row_Word ?kx_Row_Word ?w_RESERVED ?wd_RESERVED ?z_all ?z_bool ?z_dict ?z_enumerate ?z_int ?z_isinstance ?z_len ?z_list ?z_range ?z_repr ?z_str ?z_tuple ?z_zip ?q_MOST_CHARACTERS ?q_FIRST_SIGNS ?q_SIGNS ?q_MOST_LETTERS ?q_MOST_EVENTS ?q_MOST_IN_WORD ?q_MOST_IN_ROUND
    (case aC_Ground => k_is); (case aC_Word => k_is); (case aC_Row => k_is); (case a0 => k_is); (case l0 => k_is); (case c0 => k_is); (case k0 => k_is); (case a1 => first | k_is | kernel_rfl | rfl); (case l1 => k_is); (case c1 => k_is); (case k1 => k_is); (case a2 => k_is); (case l2 => k_is); (case c2 => k_is); (case k2 => k_is); (case a3 => k_is); (case l3 => k_is); (case c3 => k_is); (case k3 => k_is); (case a4 => k_is); (case l4 => k_is); (case c4 => k_is); (case k4 => k_is); (case a5 => k_is); (case i5 => k_is); (case l5 => k_is); (case c5 => k_is); (case k5 => k_is); (case a6 => k_is); (case i6 => k_is); (case l6 => k_is); (case c6 => k_is); (case k6 => k_is); (case a7 => k_is); (case i7 => k_is); (case l7 => k_is); (case c7 => k_is); (case k7 => k_is); (case a8 => k_is); (case l8 => k_is); (case c8 => k_is); (case k8 => k_is); (case a9 => k_is); (case l9 => k_is); (case c9 => k_is); (case k9 => k_is); (case a10 => first | k_is | kernel_rfl | rfl); (case l10 => k_is); (case c10 => k_is); (case k10 => k_is); (case a11 => first | k_is | kernel_rfl | rfl); (case l11 => k_is); (case c11 => k_is); (case k11 => k_is); (case a12 => first | k_is | kernel_rfl | rfl); (case i12 => k_is); (case l12 => k_is); (case c12 => k_is); (case k12 => k_is); (case a13 => first | k_is | kernel_rfl | rfl); (case i13 => k_is); (case l13 => k_is); (case c13 => k_is); (case k13 => k_is); (case a14 => first | k_is | kernel_rfl | rfl); (case l14 => k_is); (case c14 => k_is); (case k14 => k_is); (case a15 => first | k_is | kernel_rfl | rfl); (case l15 => k_is); (case c15 => k_is); (case k15 => k_is); (case a16 => first | k_is | kernel_rfl | rfl); (case l16 => k_is); (case c16 => k_is); (case k16 => k_is); (case a17 => first | k_is | kernel_rfl | rfl); (case l17 => k_is); (case c17 => k_is); (case k17 => k_is); (case a18 => first | k_is | kernel_rfl | rfl); (case i18 => k_is); (case l18 => k_is); (case c18 => k_is); (case k18 => k_is); (case a19 => first | k_is | kernel_rfl | rfl); (case i19 => k_is); (case rd19 => first | k_is | kernel_rfl | rfl); (case ga19 => first | k_is | kernel_rfl | rfl); (case l19 => k_is); (case c19 => k_is); (case k19 => k_is); (case a20 => k_is); (case i20 => k_is); (case l20 => k_is); (case c20 => k_is); (case k20 => k_is); (case a21 => k_is); (case i21 => k_is); (case l21 => k_is); (case c21 => k_is); (case k21 => k_is); (case a22 => k_is); (case i22 => k_is); (case l22 => k_is); (case c22 => k_is); (case k22 => k_is); (case a23 => k_is); (case i23 => k_is); (case l23 => k_is); (case c23 => k_is); (case k23 => k_is); (case a24 => k_is); (case i24 => k_is); (case l24 => k_is); (case c24 => k_is); (case k24 => k_is); (case a25 => k_is); (case l25 => k_is); (case c25 => k_is); (case k25 => k_is); (case a26 => k_is); (case l26 => k_is); (case c26 => k_is); (case k26 => k_is); (case a27 => k_is); (case l27 => k_is); (case c27 => k_is); (case k27 => k_is); (case a28 => k_is); (case l28 => k_is); (case c28 => k_is); (case k28 => k_is); (case a29 => k_is); (case l29 => k_is); (case c29 => k_is); (case k29 => k_is); (case a30 => k_is); (case l30 => k_is); (case c30 => k_is); (case k30 => k_is); (case a31 => k_is); (case l31 => k_is); (case c31 => k_is); (case k31 => k_is); (case a32 => k_is); (case l32 => k_is); (case c32 => k_is); (case k32 => k_is); (case a33 => k_is); (case l33 => k_is); (case c33 => k_is); (case k33 => k_is); (case a34 => k_is); (case l34 => k_is); (case c34 => k_is); (case k34 => k_is); (case a35 => k_is); (case l35 => k_is); (case c35 => k_is); (case k35 => k_is); (case a36 => k_is); (case l36 => k_is); (case c36 => k_is); (case k36 => k_is); (case a37 => k_is); (case l37 => k_is); (case c37 => k_is); (case k37 => k_is); (case a38 => k_is); (case l38 => k_is); (case c38 => k_is); (case k38 => k_is); (case a39 => k_is); (case l39 => k_is); (case c39 => k_is); (case k39 => k_is); (case a40 => k_is); (case l40 => k_is); (case c40 => k_is); (case k40 => k_is); (case a41 => k_is); (case l41 => k_is); (case c41 => k_is); (case k41 => k_is); (case a42 => k_is); (case l42 => k_is); (case c42 => k_is); (case k42 => k_is); (case a43 => k_is); (case l43 => k_is); (case c43 => k_is); (case k43 => k_is); (case pg_Ground => k_is); (case hd_Ground => k_is); (case po_Ground => k_is); (case sa_Ground => k_is); (case mk_Ground => k_is); (case kc_Ground => k_is); (case na_Ground_kind => k_is); (case na_Ground_text => k_is); (case na_Ground_letters => k_is); (case na_Ground__names => k_is); (case na_Ground__numbers => k_is); (case ha_Ground => k_is); (case hn_Ground => k_is); (case ht_Ground => k_is); (case hm_Ground => k_is); (case pg_Word => k_is); (case hd_Word => k_is); (case po_Word => k_is); (case sa_Word => k_is); (case mk_Word => k_is); (case kc_Word => k_is); (case na_Word_ground => k_is); (case na_Word_letters => k_is); (case na_Word_text => k_is); (case ha_Word => k_is); (case hn_Word => k_is); (case ht_Word => k_is); (case hm_Word => k_is); (case pg_Row => k_is); (case hd_Row => k_is); (case po_Row => k_is); (case sa_Row => k_is); (case mk_Row => k_is); (case kc_Row => k_is); (case na_Row_ground => k_is); (case na_Row_beginning => k_is); (case na_Row_period => k_is); (case na_Row_text => k_is); (case ha_Row => k_is); (case hn_Row => k_is); (case ht_Row => k_is); (case hm_Row => k_is); (case ci_Ground => first | k_is | kernel_rfl | rfl); (case ne_Ground => first | k_is | kernel_rfl | rfl); (case st_Ground_NoneType => first | k_is | kernel_rfl | rfl); (case st_Ground_str => first | k_is | kernel_rfl | rfl); (case st_Ground_int => first | k_is | kernel_rfl | rfl); (case st_Ground_tuple => first | k_is | kernel_rfl | rfl); (case sx_Ground_Word => first | k_is | kernel_rfl | rfl); (case kx_Ground_Word => first | k_is | kernel_rfl | rfl); (case sx_Ground_Row => first | k_is | kernel_rfl | rfl); (case kx_Ground_Row => first | k_is | kernel_rfl | rfl); (case ci_Word => first | k_is | kernel_rfl | rfl); (case ne_Word => first | k_is | kernel_rfl | rfl); (case st_Word_NoneType => first | k_is | kernel_rfl | rfl); (case st_Word_str => first | k_is | kernel_rfl | rfl); (case st_Word_int => first | k_is | kernel_rfl | rfl); (case st_Word_tuple => first | k_is | kernel_rfl | rfl); (case sx_Word_Ground => first | k_is | kernel_rfl | rfl); (case kx_Word_Ground => first | k_is | kernel_rfl | rfl); (case sx_Word_Row => first | k_is | kernel_rfl | rfl); (case kx_Word_Row => first | k_is | kernel_rfl | rfl); (case ci_Row => first | k_is | kernel_rfl | rfl); (case ne_Row => first | k_is | kernel_rfl | rfl); (case st_Row_NoneType => first | k_is | kernel_rfl | rfl); (case st_Row_str => first | k_is | kernel_rfl | rfl); (case st_Row_int => first | k_is | kernel_rfl | rfl); (case st_Row_tuple => first | k_is | kernel_rfl | rfl); (case sx_Row_Ground => first | k_is | kernel_rfl | rfl); (case kx_Row_Ground => first | k_is | kernel_rfl | rfl); (case sx_Row_Word => first | k_is | kernel_rfl | rfl); (case kx_Row_Word => first | k_is | kernel_rfl | rfl); (case w_RESERVED => k_is); (case wd_RESERVED => first | k_is | kernel_rfl | rfl); (case z_all => k_is); (case z_bool => k_is); (case z_dict => k_is); (case z_enumerate => k_is); (case z_int => k_is); (case z_isinstance => k_is); (case z_len => k_is); (case z_list => k_is); (case z_range => k_is); (case z_repr => k_is); (case z_str => k_is); (case z_tuple => k_is); (case z_zip => k_is); (case q_MOST_CHARACTERS => k_is); (case q_FIRST_SIGNS => k_is); (case q_SIGNS => k_is); (case q_MOST_LETTERS => k_is); (case q_MOST_EVENTS => k_is); (case q_MOST_IN_WORD => k_is); (case q_MOST_IN_ROUND => k_is)
