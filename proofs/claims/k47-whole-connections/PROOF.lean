import PyProof.Rows.All
import Wide.All
import OpenK.AllK
import Wide.FinOn
import HandS.ForMost
import HandS.Comp
import HandS.Wide
import HandS.Defaults
import HandS.Deep
import HandS.TupAny
import HandS.Style
import HandS.IsInst
import HandS.Conv
import HandS.Small
import HandS.ListItems
import PyProof.SeqIndex
import HandS.TupSets
import HandS.Strs
import HandS.SetFor
import KE.GoesMore
import PyProof.Draws
import PyProof.EnumMake
import KE.KRevSl
import HandS.CallLocal
import HandS.Head0
import HandS.Head1
import HandS.Head2
import HandS.HeadEnd
import HandS.HeadHook1
import HandS.HeadHook2
import PySem.Challenge.RW_gridsym_k47_whole_connections
set_option Elab.async false
set_option linter.all false
set_option maxRecDepth 100000
set_option maxHeartbeats 4000000
section
set_option Elab.async false
set_option linter.all false
set_option maxRecDepth 100000
set_option maxHeartbeats 4000000
/-! G1: data, stores, judgements over HandS. -/
namespace G
open PySem L2

/-- data that never changes (and addresses of what may) -/
inductive D where
  | non | bl (b : Bool) | int (i : Int) | str (x : Str) | tup (ds : List D) | ref (a : Addr) | scr (ns : List Int) | any

mutual
def At (K : PySem.W.Frag) (H : Hp) : V → D → Prop
  | v, .non => v = .non
  | v, .bl b => v = .bl b
  | v, .int i => v = .int i
  | v, .str x => v = .str x
  | v, .ref a => v = .ref a
  | _, .any => True
  | v, .scr ns => ∃ a, v = .ref a ∧ ((∃ o, H a = some (.frz o (.lst (ns.map V.int)))) ∨ (SqL K (fun _ => none) a (ns.map V.int)))
  | v, .tup ds => ∃ a xs, v = .ref a ∧ SqT K H a xs ∧ Ats K H xs ds
def Ats (K : PySem.W.Frag) (H : Hp) : List V → List D → Prop
  | [], [] => True
  | x :: xs, d :: ds => At K H x d ∧ Ats K H xs ds
  | [], _ :: _ => False
  | _ :: _, [] => False
end

/-- tuples stay -/
structure TExt (H H' : Hp) : Prop where
  tup : ∀ a xs, Rd H a (.tup xs) → Rd H' a (.tup xs)
  frl : ∀ a o xs, H a = some (.frz o (.lst xs)) → H' a = some (.frz o (.lst xs))
theorem TExt.refl (H : Hp) : TExt H H := ⟨fun _ _ h => h, fun _ _ _ h => h⟩
theorem TExt.trans {H H1 H2 : Hp} (a : TExt H H1) (b : TExt H1 H2) : TExt H H2 := ⟨fun x xs h => b.tup x xs (a.tup x xs h), fun x o xs h => b.frl x o xs (a.frl x o xs h)⟩
theorem TExt.sqt {K : PySem.W.Frag} {H H' : Hp} (t : TExt H H') {a : Addr} {xs : List V} (h : SqT K H a xs) : SqT K H' a xs := by
  rcases h with h | h
  · exact .inl (t.tup _ _ h)
  · exact .inr h
theorem TExt.laid {H : Hp} {p : Addr} {o : HO} (h : H p = none) : TExt H (upd H p o) := by
  refine ⟨fun a xs r => ?_, fun a u xs r => by rw [upd_ne (ne_of_none r h)]; exact r⟩
  rcases r with r | ⟨u, r⟩
  · exact .inl (by rw [upd_ne (ne_of_none r h)]; exact r)
  · exact .inr ⟨u, by rw [upd_ne (ne_of_none r h)]; exact r⟩
/-- a thing that may be written is written (a thing that may be written again) -/
theorem TExt.write {H : Hp} {p : Addr} {u o : HO} (h : H p = some u) (m : Mut (some u)) : TExt H (upd H p o) := by
  have np : ∀ a v, H a = some v → ¬ Mut (some v) → a ≠ p := fun a v q nm e => by
    rw [e, h] at q
    cases q
    exact nm m
  refine ⟨fun a xs r => ?_, fun a u xs r => by rw [upd_ne (np a _ r id)]; exact r⟩
  rcases r with r | ⟨u, r⟩
  · exact .inl (by rw [upd_ne (np a _ r id)]; exact r)
  · exact .inr ⟨u, by rw [upd_ne (np a _ r id)]; exact r⟩

mutual
theorem At.mono {K : PySem.W.Frag} {H H' : Hp} (t : TExt H H') : ∀ {d : D} {v : V}, At K H v d → At K H' v d
  | .non, _, h => by unfold At at h ⊢; exact h
  | .bl _, _, h => by unfold At at h ⊢; exact h
  | .int _, _, h => by unfold At at h ⊢; exact h
  | .str _, _, h => by unfold At at h ⊢; exact h
  | .ref _, _, h => by unfold At at h ⊢; exact h
  | .any, _, h => by unfold At at h ⊢; exact h
  | .scr ns, _, h => by
    unfold At at h ⊢
    obtain ⟨a, e, q⟩ := h
    refine ⟨a, e, ?_⟩
    rcases q with ⟨o, q⟩ | q
    · exact .inl ⟨o, t.frl _ _ _ q⟩
    · exact .inr q
  | .tup ds, _, h => by
    unfold At at h ⊢
    obtain ⟨a, xs, e, s, q⟩ := h
    exact ⟨a, xs, e, t.sqt s, Ats.mono t q⟩
theorem Ats.mono {K : PySem.W.Frag} {H H' : Hp} (t : TExt H H') : ∀ {ds : List D} {vs : List V}, Ats K H vs ds → Ats K H' vs ds
  | [], [], h => by unfold Ats; trivial
  | [], _ :: _, h => by unfold Ats at h; exact h.elim
  | _ :: _, [], h => by unfold Ats at h; exact h.elim
  | d :: ds, v :: vs, h => by
    unfold Ats at h ⊢
    exact ⟨At.mono t h.1, Ats.mono t h.2⟩
end
theorem at_int {K : PySem.W.Frag} {H : Hp} {v : V} {i : Int} : At K H v (.int i) ↔ v = .int i := by unfold At; exact Iff.rfl
theorem at_bl {K : PySem.W.Frag} {H : Hp} {v : V} {i : Bool} : At K H v (.bl i) ↔ v = .bl i := by unfold At; exact Iff.rfl
theorem at_str {K : PySem.W.Frag} {H : Hp} {v : V} {i : Str} : At K H v (.str i) ↔ v = .str i := by unfold At; exact Iff.rfl
theorem at_ref {K : PySem.W.Frag} {H : Hp} {v : V} {i : Addr} : At K H v (.ref i) ↔ v = .ref i := by unfold At; exact Iff.rfl
theorem at_non {K : PySem.W.Frag} {H : Hp} {v : V} : At K H v .non ↔ v = .non := by unfold At; exact Iff.rfl
theorem at_any {K : PySem.W.Frag} {H : Hp} {v : V} : At K H v .any ↔ True := by unfold At; exact Iff.rfl
theorem at_tup {K : PySem.W.Frag} {H : Hp} {v : V} {ds : List D} : At K H v (.tup ds) ↔ ∃ a xs, v = .ref a ∧ SqT K H a xs ∧ Ats K H xs ds := by
  constructor
  · intro h; unfold At at h; exact h
  · intro h; unfold At; exact h
theorem ats_nil {K : PySem.W.Frag} {H : Hp} {vs : List V} : Ats K H vs [] ↔ vs = [] := by
  cases vs with
  | nil => unfold Ats; simp
  | cons v vs => unfold Ats; simp
theorem ats_cons {K : PySem.W.Frag} {H : Hp} {vs : List V} {d : D} {ds : List D} : Ats K H vs (d :: ds) ↔ ∃ v r, vs = v :: r ∧ At K H v d ∧ Ats K H r ds := by
  cases vs with
  | nil => unfold Ats; simp
  | cons v vs =>
    constructor
    · intro h; unfold Ats at h; exact ⟨v, vs, rfl, h.1, h.2⟩
    · rintro ⟨_, _, e, h1, h2⟩
      injection e with e1 e2
      subst e1; subst e2
      unfold Ats; exact ⟨h1, h2⟩
theorem Ats.length {K : PySem.W.Frag} {H : Hp} : ∀ {ds : List D} {vs : List V}, Ats K H vs ds → vs.length = ds.length
  | [], vs, h => by rw [ats_nil.mp h]; rfl
  | d :: ds, vs, h => by
    obtain ⟨v, r, rfl, _, h2⟩ := ats_cons.mp h
    simp [Ats.length h2]
theorem Ats.get {K : PySem.W.Frag} {H : Hp} : ∀ {ds : List D} {vs : List V} {i : Nat} {d : D}, Ats K H vs ds → ds[i]? = some d → ∃ v, vs[i]? = some v ∧ At K H v d
  | [], vs, i, d, h, e => by simp at e
  | d' :: ds, vs, i, d, h, e => by
    obtain ⟨v, r, rfl, h1, h2⟩ := ats_cons.mp h
    cases i with
    | zero => simp at e; subst e; exact ⟨v, by simp, h1⟩
    | succ i => simp at e; obtain ⟨u, hu, hd⟩ := Ats.get h2 e; exact ⟨u, by simpa using hu, hd⟩
theorem Ats.get' {K : PySem.W.Frag} {H : Hp} {ds : List D} {vs : List V} {i : Nat} {v : V} (h : Ats K H vs ds) (e : vs[i]? = some v) : ∃ d, ds[i]? = some d ∧ At K H v d := by
  have hi : i < ds.length := by rw [← h.length]; exact (List.getElem?_eq_some_iff.mp e).1
  obtain ⟨u, hu, hd⟩ := h.get (i := i) (d := ds[i]) (by simp [hi])
  rw [e] at hu; cases hu
  exact ⟨_, by simp [hi], hd⟩
theorem Ats.append {K : PySem.W.Frag} {H : Hp} : ∀ {ds es : List D} {vs ws : List V}, Ats K H vs ds → Ats K H ws es → Ats K H (vs ++ ws) (ds ++ es)
  | [], es, vs, ws, h, q => by rw [ats_nil.mp h]; exact q
  | d :: ds, es, vs, ws, h, q => by
    obtain ⟨v, r, rfl, h1, h2⟩ := ats_cons.mp h
    exact ats_cons.mpr ⟨v, r ++ ws, rfl, h1, h2.append q⟩
theorem Ats.drop {K : PySem.W.Frag} {H : Hp} : ∀ {ds : List D} {vs : List V} (n : Nat), Ats K H vs ds → Ats K H (vs.drop n) (ds.drop n)
  | ds, vs, 0, h => h
  | [], vs, n + 1, h => by rw [ats_nil.mp h]; exact ats_nil.mpr rfl
  | d :: ds, vs, n + 1, h => by
    obtain ⟨v, r, rfl, h1, h2⟩ := ats_cons.mp h
    exact h2.drop n
theorem Ats.take {K : PySem.W.Frag} {H : Hp} : ∀ {ds : List D} {vs : List V} (n : Nat), Ats K H vs ds → Ats K H (vs.take n) (ds.take n)
  | ds, vs, 0, h => ats_nil.mpr rfl
  | [], vs, n + 1, h => by rw [ats_nil.mp h]; exact ats_nil.mpr rfl
  | d :: ds, vs, n + 1, h => by
    obtain ⟨v, r, rfl, h1, h2⟩ := ats_cons.mp h
    exact ats_cons.mpr ⟨v, r.take n, rfl, h1, h2.take n⟩
theorem Ats.reverse {K : PySem.W.Frag} {H : Hp} : ∀ {ds : List D} {vs : List V}, Ats K H vs ds → Ats K H vs.reverse ds.reverse
  | [], vs, h => by rw [ats_nil.mp h]; exact ats_nil.mpr rfl
  | d :: ds, vs, h => by
    obtain ⟨v, r, rfl, h1, h2⟩ := ats_cons.mp h
    rw [List.reverse_cons, List.reverse_cons]
    exact h2.reverse.append (ats_cons.mpr ⟨v, [], rfl, h1, ats_nil.mpr rfl⟩)
theorem Ats.set {K : PySem.W.Frag} {H : Hp} {v : V} {d : D} (q : At K H v d) : ∀ {ds : List D} {vs : List V} (i : Nat), Ats K H vs ds → Ats K H (vs.set i v) (ds.set i d)
  | [], vs, i, h => by rw [ats_nil.mp h]; exact ats_nil.mpr rfl
  | d' :: ds, vs, 0, h => by
    obtain ⟨v', r, rfl, h1, h2⟩ := ats_cons.mp h
    exact ats_cons.mpr ⟨v, r, rfl, q, h2⟩
  | d' :: ds, vs, i + 1, h => by
    obtain ⟨v', r, rfl, h1, h2⟩ := ats_cons.mp h
    exact ats_cons.mpr ⟨v', r.set i v, rfl, h1, h2.set q i⟩
theorem Ats.eraseIdx {K : PySem.W.Frag} {H : Hp} : ∀ {ds : List D} {vs : List V} (i : Nat), Ats K H vs ds → Ats K H (vs.eraseIdx i) (ds.eraseIdx i)
  | [], vs, i, h => by rw [ats_nil.mp h]; exact ats_nil.mpr rfl
  | d' :: ds, vs, 0, h => by
    obtain ⟨v', r, rfl, h1, h2⟩ := ats_cons.mp h
    exact h2
  | d' :: ds, vs, i + 1, h => by
    obtain ⟨v', r, rfl, h1, h2⟩ := ats_cons.mp h
    exact ats_cons.mpr ⟨v', r.eraseIdx i, rfl, h1, h2.eraseIdx i⟩
theorem Ats.one {K : PySem.W.Frag} {H : Hp} {v : V} {d : D} (h : At K H v d) : Ats K H [v] [d] := ats_cons.mpr ⟨v, [], rfl, h, ats_nil.mpr rfl⟩
theorem Ats.ints {K : PySem.W.Frag} {H : Hp} : ∀ {ns : List Int} {vs : List V}, Ats K H vs (ns.map D.int) → vs = ns.map V.int
  | [], vs, h => ats_nil.mp h
  | n :: ns, vs, h => by
    obtain ⟨v, r, rfl, h1, h2⟩ := ats_cons.mp (show Ats K H vs (D.int n :: ns.map D.int) from h)
    rw [at_int.mp h1, Ats.ints h2]; rfl
theorem Ats.of_ints {K : PySem.W.Frag} {H : Hp} : ∀ (ns : List Int), Ats K H (ns.map V.int) (ns.map D.int)
  | [] => ats_nil.mpr rfl
  | n :: ns => ats_cons.mpr ⟨_, _, rfl, at_int.mpr rfl, Ats.of_ints ns⟩
theorem Ats.bls {K : PySem.W.Frag} {H : Hp} : ∀ {ns : List Bool} {vs : List V}, Ats K H vs (ns.map D.bl) → vs = ns.map V.bl
  | [], vs, h => ats_nil.mp h
  | n :: ns, vs, h => by
    obtain ⟨v, r, rfl, h1, h2⟩ := ats_cons.mp (show Ats K H vs (D.bl n :: ns.map D.bl) from h)
    rw [at_bl.mp h1, Ats.bls h2]; rfl

/-! ### stores -/
inductive SO where
  | lst (ds : List D)
  | dic (kvs : List (Int × D))
  | ins (C dx : Addr) (fs : List (Str × D))
structure Ent where
  p : Addr
  w : Bool
  o : SO
abbrev Sto := List Ent

def KAts (K : PySem.W.Frag) (H : Hp) (ks : List (Key × V)) (kvs : List (Int × D)) : Prop := ks.map (·.1) = kvs.map (fun kv => Sum.inl kv.1) ∧ Ats K H (ks.map (·.2)) (kvs.map (·.2))
def FAts (K : PySem.W.Frag) (H : Hp) (vs : List (Str × V)) (fs : List (Str × D)) : Prop := vs.map (·.1) = fs.map (·.1) ∧ Ats K H (vs.map (·.2)) (fs.map (·.2))
def ObjAt (K : PySem.W.Frag) (H : Hp) (p : Addr) : Bool → SO → Prop
  | true, .lst ds => ∃ xs, H p = some (.lst xs) ∧ Ats K H xs ds
  | false, .lst ds => ∃ xs, Rd H p (.lst xs) ∧ Ats K H xs ds
  | true, .dic kvs => ∃ ks, H p = some (.dK ks) ∧ KAts K H ks kvs
  | false, .dic kvs => ∃ ks, Rd H p (.dK ks) ∧ KAts K H ks kvs
  | _, .ins C dx fs => ∃ vs, H p = some (.ins C dx vs) ∧ FAts K H vs fs
theorem ObjAt.keep {K : PySem.W.Frag} {H H' : Hp} {p : Addr} {w : Bool} {o : SO} (k : ∀ u, H p = some u → H' p = some u) (t : TExt H H') (h : ObjAt K H p w o) : ObjAt K H' p w o := by
  cases w <;> cases o <;> simp only [ObjAt] at h ⊢
  · obtain ⟨xs, s, q⟩ := h
    refine ⟨xs, ?_, q.mono t⟩
    rcases s with s | ⟨u, s⟩
    · exact .inl (k _ s)
    · exact .inr ⟨u, k _ s⟩
  · obtain ⟨ks, s, q1, q2⟩ := h
    refine ⟨ks, ?_, q1, q2.mono t⟩
    rcases s with s | ⟨u, s⟩
    · exact .inl (k _ s)
    · exact .inr ⟨u, k _ s⟩
  · obtain ⟨vs, s, q1, q2⟩ := h
    exact ⟨vs, k _ s, q1, q2.mono t⟩
  · obtain ⟨xs, s, q⟩ := h
    exact ⟨xs, k _ s, q.mono t⟩
  · obtain ⟨ks, s, q1, q2⟩ := h
    exact ⟨ks, k _ s, q1, q2.mono t⟩
  · obtain ⟨vs, s, q1, q2⟩ := h
    exact ⟨vs, k _ s, q1, q2.mono t⟩
/-- an owned one may be read -/
theorem ObjAt.read {K : PySem.W.Frag} {H : Hp} {p : Addr} {w : Bool} {o : SO} (h : ObjAt K H p w o) : ObjAt K H p false o := by
  cases w
  · exact h
  · cases o <;> simp only [ObjAt] at h ⊢
    · obtain ⟨xs, s, q⟩ := h
      exact ⟨xs, .inl s, q⟩
    · obtain ⟨ks, s, q⟩ := h
      exact ⟨ks, .inl s, q⟩
    · exact h
/-- what is written stands in the heap -/
theorem ObjAt.wr {K : PySem.W.Frag} {H : Hp} {p : Addr} {o : SO} (h : ObjAt K H p true o) : ∃ u, H p = some u ∧ Mut (some u) := by
  cases o <;> simp only [ObjAt] at h
  · obtain ⟨xs, s, q⟩ := h; exact ⟨_, s, trivial⟩
  · obtain ⟨xs, s, q⟩ := h; exact ⟨_, s, trivial⟩
  · obtain ⟨xs, s, q⟩ := h; exact ⟨_, s, trivial⟩

/-- the frame of a judgement: what may be written that stood before; the heap at the start -/
structure Fr where
  ps : List Addr
  H0 : Hp
structure SOk (K : PySem.W.Frag) (F : Fr) (st : Sto) (H : Hp) : Prop where
  ext : ∀ b o, b ∉ F.ps → F.H0 b = some o → H b = some o
  txt : TExt F.H0 H
  objs : ∀ e ∈ st, ObjAt K H e.p e.w e.o
  nd : (st.map Ent.p).Nodup
  own : ∀ e ∈ st, e.w = true → e.p ∈ F.ps ∨ F.H0 e.p = none
  live : ∀ b o, F.H0 b = some o → ∃ u, H b = some u
theorem SOk.free {K : PySem.W.Frag} {F : Fr} {st : Sto} {H : Hp} (s : SOk K F st H) {p : Addr} (h : H p = none) : F.H0 p = none := by
  cases q : F.H0 p with
  | none => rfl
  | some o =>
    obtain ⟨u, hu⟩ := s.live p o q
    rw [h] at hu; cases hu
abbrev Env := List (Option D)
def EnvAt (K : PySem.W.Frag) (H : Hp) (σ : St) (en : Env) : Prop := σ.length = en.length ∧ ∀ (i : Nat) (d : D), en[i]? = some (some d) → ∃ v, σ[i]? = some (some v) ∧ At K H v d
theorem EnvAt.mono {K : PySem.W.Frag} {H H' : Hp} {σ : St} {en : Env} (t : TExt H H') (h : EnvAt K H σ en) : EnvAt K H' σ en :=
  ⟨h.1, fun i d e => let ⟨v, a, b⟩ := h.2 i d e; ⟨v, a, b.mono t⟩⟩
theorem EnvAt.set {K : PySem.W.Frag} {H : Hp} {σ : St} {en : Env} {i : Nat} {v : V} {d : D} (h : EnvAt K H σ en) (a : At K H v d) : EnvAt K H (σ.set i (some v)) (en.set i (some d)) := by
  refine ⟨by simp [h.1], fun j e q => ?_⟩
  by_cases hj : j = i
  · subst hj
    have hlt : j < en.length := by
      have := (List.getElem?_eq_some_iff.mp q).1
      simpa using this
    rw [List.getElem?_set_self hlt] at q
    cases q
    exact ⟨v, by rw [List.getElem?_set_self (by rw [h.1]; exact hlt)], a⟩
  · rw [List.getElem?_set_ne (Ne.symm hj)] at q ⊢
    exact h.2 j e q
theorem EnvAt.drop {K : PySem.W.Frag} {H : Hp} {σ : St} {en en' : Env} (h : EnvAt K H σ en) (hl : en'.length = en.length) (w : ∀ (i : Nat) d, en'[i]? = some (some d) → en[i]? = some (some d)) : EnvAt K H σ en' :=
  ⟨h.1.trans hl.symm, fun i d e => h.2 i d (w i d e)⟩

/-- what the store tells of stands in the heap -/
theorem ObjAt.live {K : PySem.W.Frag} {H : Hp} {p : Addr} {w : Bool} {o : SO} (h : ObjAt K H p w o) : ∃ u, H p = some u := by
  have h' := h.read
  cases o <;> simp only [ObjAt] at h'
  · obtain ⟨xs, s | ⟨u, s⟩, q⟩ := h' <;> exact ⟨_, s⟩
  · obtain ⟨xs, s | ⟨u, s⟩, q⟩ := h' <;> exact ⟨_, s⟩
  · obtain ⟨xs, s, q⟩ := h'; exact ⟨_, s⟩
theorem SOk.ne {K : PySem.W.Frag} {F : Fr} {st : Sto} {H : Hp} (s : SOk K F st H) {p : Addr} (h : H p = none) : ∀ e ∈ st, e.p ≠ p := fun e he q => by
  obtain ⟨u, hu⟩ := (s.objs e he).live
  rw [q, h] at hu; cases hu

/-- a new object -/
theorem SOk.alloc {K : PySem.W.Frag} {F : Fr} {st : Sto} {H : Hp} (s : SOk K F st H) {p : Addr} {o : HO} (h : H p = none) : SOk K F st (upd H p o) where
  ext := fun b u hb e => by
    have q := s.ext b u hb e
    rw [upd_ne (ne_of_none q h)]; exact q
  txt := s.txt.trans (TExt.laid h)
  objs := fun e he => (s.objs e he).keep (fun u q => by rw [upd_ne (ne_of_none q h)]; exact q) (TExt.laid h)
  nd := s.nd
  own := s.own
  live := fun b u e => by
    obtain ⟨v, hv⟩ := s.live b u e
    exact ⟨v, by rw [upd_ne (ne_of_none hv h)]; exact hv⟩
/-- .. that is put into the store -/
theorem SOk.new {K : PySem.W.Frag} {F : Fr} {st : Sto} {H : Hp} (s : SOk K F st H) {p : Addr} {u : HO} {o : SO} (h : H p = none) (ho : ObjAt K (upd H p u) p true o) : SOk K F (⟨p, true, o⟩ :: st) (upd H p u) where
  ext := (s.alloc h).ext
  txt := (s.alloc h).txt
  live := (s.alloc h).live
  objs := fun e he => by
    rcases List.mem_cons.mp he with rfl | he
    · exact ho
    · exact (s.alloc h).objs e he
  nd := by
    rw [List.map_cons, List.nodup_cons]
    refine ⟨fun hm => ?_, s.nd⟩
    obtain ⟨e, he, q⟩ := List.mem_map.mp hm
    exact s.ne h e he q
  own := fun e he hw => by
    rcases List.mem_cons.mp he with rfl | he
    · exact .inr (s.free h)
    · exact s.own e he hw

/-- the store has o at p (to be read) -/
inductive Has : Sto → Addr → SO → Prop
  | here {p w o st} : Has (⟨p, w, o⟩ :: st) p o
  | there {e st p o} : Has st p o → Has (e :: st) p o
/-- .. to be written: o gives way to o' -/
inductive Put : Sto → Addr → SO → SO → Sto → Prop
  | here {p o o' st} : Put (⟨p, true, o⟩ :: st) p o o' (⟨p, true, o'⟩ :: st)
  | there {e st p o o' st'} : Put st p o o' st' → Put (e :: st) p o o' (e :: st')
/-- one taken out -/
inductive Out : Sto → Addr → SO → Sto → Prop
  | here {p o st} : Out (⟨p, true, o⟩ :: st) p o st
  | there {e st p o st'} : Out st p o st' → Out (e :: st) p o (e :: st')
theorem Has.mem {st : Sto} {p : Addr} {o : SO} (h : Has st p o) : ∃ w, ⟨p, w, o⟩ ∈ st := by
  induction h with
  | here => exact ⟨_, List.mem_cons_self⟩
  | there _ ih => obtain ⟨w, ih⟩ := ih; exact ⟨w, List.mem_cons_of_mem _ ih⟩
theorem SOk.has {K : PySem.W.Frag} {F : Fr} {st : Sto} {H : Hp} (s : SOk K F st H) {p : Addr} {o : SO} (h : Has st p o) : ObjAt K H p false o := by
  obtain ⟨w, h⟩ := h.mem
  exact (s.objs _ h).read
theorem Put.mem {st st' : Sto} {p : Addr} {o o' : SO} (h : Put st p o o' st') : ⟨p, true, o⟩ ∈ st := by
  induction h with
  | here => exact List.mem_cons_self
  | there _ ih => exact List.mem_cons_of_mem _ ih
theorem Put.map {st st' : Sto} {p : Addr} {o o' : SO} (h : Put st p o o' st') : st'.map Ent.p = st.map Ent.p := by
  induction h with
  | here => rfl
  | there _ ih => rw [List.map_cons, List.map_cons, ih]
theorem Put.mem' {st st' : Sto} {p : Addr} {o o' : SO} (h : Put st p o o' st') (nd : (st.map Ent.p).Nodup) : ∀ e ∈ st', e = ⟨p, true, o'⟩ ∨ (e ∈ st ∧ e.p ≠ p) := by
  induction h with
  | here =>
    intro e he
    rcases List.mem_cons.mp he with rfl | he
    · exact .inl rfl
    · rw [List.map_cons, List.nodup_cons] at nd
      exact .inr ⟨List.mem_cons_of_mem _ he, fun q => nd.1 (List.mem_map.mpr ⟨e, he, q⟩)⟩
  | there h ih =>
    rw [List.map_cons, List.nodup_cons] at nd
    intro e he
    rcases List.mem_cons.mp he with rfl | he
    · refine .inr ⟨List.mem_cons_self, fun q => nd.1 ?_⟩
      rw [q]
      exact List.mem_map.mpr ⟨_, h.mem, rfl⟩
    · rcases ih nd.2 e he with r | ⟨r, q⟩
      · exact .inl r
      · exact .inr ⟨List.mem_cons_of_mem _ r, q⟩
/-- an object of the store is written -/
theorem SOk.put {K : PySem.W.Frag} {F : Fr} {st st' : Sto} {H : Hp} (s : SOk K F st H) {p : Addr} {o o' : SO} {u : HO} (h : Put st p o o' st') (ho : ObjAt K (upd H p u) p true o') : SOk K F st' (upd H p u) ∧ TExt H (upd H p u) := by
  obtain ⟨v, hv, m⟩ := (s.objs _ h.mem).wr
  have T : TExt H (upd H p u) := TExt.write hv m
  refine ⟨⟨fun b w hb e => ?_, s.txt.trans T, fun e he => ?_, by rw [h.map]; exact s.nd, fun e he hw => ?_, fun b w e => ?_⟩, T⟩
  · have ne : b ≠ p := fun q => by
      rcases s.own _ h.mem rfl with z | z
      · exact hb (by rw [q]; exact z)
      · rw [q] at e; rw [show F.H0 p = none from z] at e; cases e
    rw [upd_ne ne]; exact s.ext b w hb e
  · rcases h.mem' s.nd e he with rfl | ⟨he, ne⟩
    · exact ho
    · exact (s.objs e he).keep (fun w q => by rw [upd_ne ne]; exact q) T
  · rcases h.mem' s.nd e he with rfl | ⟨he, ne⟩
    · exact s.own ⟨p, true, o⟩ h.mem rfl
    · exact s.own e he hw
  · by_cases q : b = p
    · exact ⟨_, by rw [q]; exact upd_same⟩
    · obtain ⟨x, hx⟩ := s.live b w e
      exact ⟨x, by rw [upd_ne q]; exact hx⟩
/-- fewer entries -/
theorem SOk.sub {K : PySem.W.Frag} {F : Fr} {st st' : Sto} {H : Hp} (s : SOk K F st H) (h : st'.Sublist st) : SOk K F st' H :=
  ⟨s.ext, s.txt, fun e he => s.objs e (h.subset he), s.nd.sublist (h.map _), fun e he => s.own e (h.subset he), s.live⟩
end G
end
section
set_option Elab.async false
set_option linter.all false
set_option maxRecDepth 100000
set_option maxHeartbeats 4000000
/-! G2: judgements and the first rules. -/
namespace G
open PySem L2
open PyProof.Rows (floordiv_int)

/-! ### what any rule gives -/
def anyE (X : Cx) (e : Expr) : TE := fun σ H k => ∃ t, PE X e t ∧ t σ H k
theorem pe_any {X : Cx} {e : Expr} : PE X e (anyE X e) := ⟨fun pins s σ H Q I ⟨_, h, q⟩ => h.run pins s σ H Q I q⟩
def anyT (X : Cx) (e : Expr) : TT := fun σ H k => ∃ t, PT X e t ∧ t σ H k
theorem pt_any {X : Cx} {e : Expr} : PT X e (anyT X e) := ⟨fun pins s σ H Q I ⟨_, h, q⟩ => h.run pins s σ H Q I q⟩
def anyW (X : Cx) (e : Expr) : TT := fun σ H k => ∃ t, PW X e t ∧ t σ H k
theorem pw_any {X : Cx} {e : Expr} : PW X e (anyW X e) := ⟨fun wh pins s σ H Q I ⟨_, h, q⟩ => h.run wh pins s σ H Q I q⟩
def anyA (X : Cx) (es : List Expr) : TA := fun σ H k => ∃ t, PA X es t ∧ t σ H k
theorem pa_any {X : Cx} {es : List Expr} : PA X es (anyA X es) := ⟨fun pos pins s σ H Q I ⟨_, h, q⟩ => h.run pos pins s σ H Q I q⟩
def anyG (X : Cx) (e : Expr) : TG := fun v σ H k => ∃ t, PG X e t ∧ t v σ H k
theorem pg_any {X : Cx} {e : Expr} : PG X e (anyG X e) := ⟨fun pins s σ H v u Q I r ⟨_, h, q⟩ => h.run pins s σ H v u Q I r q⟩
def anyGs (X : Cx) (es : List Expr) : TGs := fun v σ H k => ∃ t, PGs X es t ∧ t v σ H k
theorem pgs_any {X : Cx} {es : List Expr} : PGs X es (anyGs X es) := ⟨fun pins s σ H v u Q I r ⟨_, h, q⟩ => h.run pins s σ H v u Q I r q⟩
def anyS (X : Cx) (s : Stmt) : TS := fun D σ H => ∃ t, PS X s t ∧ t D σ H
theorem ps_any {X : Cx} {s : Stmt} : PS X s (anyS X s) := ⟨fun pins s σ H D I ⟨_, h, q⟩ => h.run pins s σ H D I q⟩
def anySs (X : Cx) (s : List Stmt) : TS := fun D σ H => ∃ t, PSs X s t ∧ t D σ H
theorem pss_any {X : Cx} {s : List Stmt} : PSs X s (anySs X s) := ⟨fun pins s σ H D I ⟨_, h, q⟩ => h.run pins s σ H D I q⟩

/-! ### the judgements -/
variable {X : Cx} {F : Fr} {en : Env} {st : Sto}
def tE (K : PySem.W.Frag) (F : Fr) (en : Env) (st : Sto) (Q : D → Sto → Prop) : TE := fun σ H k => SOk K F st H ∧ EnvAt K H σ en ∧ ∀ d st' v H', Q d st' → SOk K F st' H' → TExt H H' → At K H' v d → k v H'
def EE (X : Cx) (F : Fr) (en : Env) (e : Expr) (st : Sto) (Q : D → Sto → Prop) : Prop := PE X e (tE X.K F en st Q)
def tT (K : PySem.W.Frag) (F : Fr) (en : Env) (st : Sto) (Q : Bool → Sto → Prop) : TT := fun σ H k => SOk K F st H ∧ EnvAt K H σ en ∧ ∀ b st' H', Q b st' → SOk K F st' H' → TExt H H' → k b H'
def ET (X : Cx) (F : Fr) (en : Env) (e : Expr) (st : Sto) (Q : Bool → Sto → Prop) : Prop := PT X e (tT X.K F en st Q)
def EW (X : Cx) (F : Fr) (en : Env) (e : Expr) (st : Sto) (Q : Bool → Sto → Prop) : Prop := PW X e (tT X.K F en st Q)
def tA (K : PySem.W.Frag) (F : Fr) (en : Env) (st : Sto) (Q : List D → Sto → Prop) : TA := fun σ H k => SOk K F st H ∧ EnvAt K H σ en ∧ ∀ ds st' vs H', Q ds st' → SOk K F st' H' → TExt H H' → Ats K H' vs ds → k vs H'
def EA (X : Cx) (F : Fr) (en : Env) (es : List Expr) (st : Sto) (Q : List D → Sto → Prop) : Prop := PA X es (tA X.K F en st Q)
def tG (K : PySem.W.Frag) (F : Fr) (vs : List Nat) (d : D) (en : Env) (st : Sto) (Q : Env → Sto → Prop) : TG := fun v σ H k => At K H v d ∧ SOk K F st H ∧ EnvAt K H σ en ∧
  ∀ en' st' σ' H', Q en' st' → SOk K F st' H' → EnvAt K H' σ' en' → TExt H H' → (σ'.length = σ.length ∧ ∀ j, j ∉ vs → σ'[j]? = σ[j]?) → k σ' H'
def EG (X : Cx) (F : Fr) (vs : List Nat) (tg : Expr) (d : D) (en : Env) (st : Sto) (Q : Env → Sto → Prop) : Prop := PG X tg (tG X.K F vs d en st Q)
def tGs (K : PySem.W.Frag) (F : Fr) (vs : List Nat) (ds : List D) (en : Env) (st : Sto) (Q : Env → Sto → Prop) : TGs := fun v σ H k => Ats K H v ds ∧ SOk K F st H ∧ EnvAt K H σ en ∧
  ∀ en' st' σ' H', Q en' st' → SOk K F st' H' → EnvAt K H' σ' en' → TExt H H' → (σ'.length = σ.length ∧ ∀ j, j ∉ vs → σ'[j]? = σ[j]?) → k σ' H'
def EGs (X : Cx) (F : Fr) (vs : List Nat) (tgs : List Expr) (ds : List D) (en : Env) (st : Sto) (Q : Env → Sto → Prop) : Prop := PGs X tgs (tGs X.K F vs ds en st Q)
def tS (K : PySem.W.Frag) (F : Fr) (en : Env) (st : Sto) (N : Env → Sto → Prop) (R : D → Sto → Prop) : TS := fun D σ H => SOk K F st H ∧ EnvAt K H σ en ∧
  (∀ en' st' σ' H', N en' st' → SOk K F st' H' → EnvAt K H' σ' en' → TExt H H' → D.nx σ' H') ∧ (∀ d st' v H', R d st' → SOk K F st' H' → At K H' v d → D.rt v H')
def SS (X : Cx) (F : Fr) (s : Stmt) (en : Env) (st : Sto) (N : Env → Sto → Prop) (R : D → Sto → Prop) : Prop := PS X s (tS X.K F en st N R)
def SL (X : Cx) (F : Fr) (s : List Stmt) (en : Env) (st : Sto) (N : Env → Sto → Prop) (R : D → Sto → Prop) : Prop := PSs X s (tS X.K F en st N R)

theorem EE.intro {e : Expr} {Q : D → Sto → Prop} (h : ∀ σ H k, SOk X.K F st H → EnvAt X.K H σ en → (∀ d st' v H', Q d st' → SOk X.K F st' H' → TExt H H' → At X.K H' v d → k v H') → anyE X e σ H k) : EE X F en e st Q :=
  ⟨fun pins s σ H k I ⟨a, b, c⟩ => pe_any.run pins s σ H k I (h σ H k a b c)⟩
theorem EE.use {e : Expr} {Q : D → Sto → Prop} {σ : St} {H : Hp} {k : VK} (h : EE X F en e st Q) (a : SOk X.K F st H) (b : EnvAt X.K H σ en) (c : ∀ d st' v H', Q d st' → SOk X.K F st' H' → TExt H H' → At X.K H' v d → k v H') : anyE X e σ H k := ⟨_, h, a, b, c⟩
theorem ET.intro {e : Expr} {Q : Bool → Sto → Prop} (h : ∀ σ H k, SOk X.K F st H → EnvAt X.K H σ en → (∀ d st' H', Q d st' → SOk X.K F st' H' → TExt H H' → k d H') → anyT X e σ H k) : ET X F en e st Q :=
  ⟨fun pins s σ H k I ⟨a, b, c⟩ => pt_any.run pins s σ H k I (h σ H k a b c)⟩
theorem ET.use {e : Expr} {Q : Bool → Sto → Prop} {σ : St} {H : Hp} {k : Bool → Hp → Prop} (h : ET X F en e st Q) (a : SOk X.K F st H) (b : EnvAt X.K H σ en) (c : ∀ d st' H', Q d st' → SOk X.K F st' H' → TExt H H' → k d H') : anyT X e σ H k := ⟨_, h, a, b, c⟩
theorem EW.intro {e : Expr} {Q : Bool → Sto → Prop} (h : ∀ σ H k, SOk X.K F st H → EnvAt X.K H σ en → (∀ d st' H', Q d st' → SOk X.K F st' H' → TExt H H' → k d H') → anyW X e σ H k) : EW X F en e st Q :=
  ⟨fun wh pins s σ H k I ⟨a, b, c⟩ => pw_any.run wh pins s σ H k I (h σ H k a b c)⟩
theorem EW.use {e : Expr} {Q : Bool → Sto → Prop} {σ : St} {H : Hp} {k : Bool → Hp → Prop} (h : EW X F en e st Q) (a : SOk X.K F st H) (b : EnvAt X.K H σ en) (c : ∀ d st' H', Q d st' → SOk X.K F st' H' → TExt H H' → k d H') : anyW X e σ H k := ⟨_, h, a, b, c⟩
theorem EA.intro {es : List Expr} {Q : List D → Sto → Prop} (h : ∀ σ H k, SOk X.K F st H → EnvAt X.K H σ en → (∀ d st' v H', Q d st' → SOk X.K F st' H' → TExt H H' → Ats X.K H' v d → k v H') → anyA X es σ H k) : EA X F en es st Q :=
  ⟨fun pos pins s σ H k I ⟨a, b, c⟩ => pa_any.run pos pins s σ H k I (h σ H k a b c)⟩
theorem EA.use {es : List Expr} {Q : List D → Sto → Prop} {σ : St} {H : Hp} {k : List V → Hp → Prop} (h : EA X F en es st Q) (a : SOk X.K F st H) (b : EnvAt X.K H σ en) (c : ∀ d st' v H', Q d st' → SOk X.K F st' H' → TExt H H' → Ats X.K H' v d → k v H') : anyA X es σ H k := ⟨_, h, a, b, c⟩
theorem EG.intro {vs : List Nat} {tg : Expr} {d : D} {Q : Env → Sto → Prop} (h : ∀ v σ H k, At X.K H v d → SOk X.K F st H → EnvAt X.K H σ en → (∀ en' st' σ' H', Q en' st' → SOk X.K F st' H' → EnvAt X.K H' σ' en' → TExt H H' → (σ'.length = σ.length ∧ ∀ j, j ∉ vs → σ'[j]? = σ[j]?) → k σ' H') → anyG X tg v σ H k) : EG X F vs tg d en st Q :=
  ⟨fun pins s σ H v u k I r ⟨a0, a, b, c⟩ => pg_any.run pins s σ H v u k I r (h v σ H k a0 a b c)⟩
theorem EG.use {vs : List Nat} {tg : Expr} {d : D} {Q : Env → Sto → Prop} {v : V} {σ : St} {H : Hp} {k : St → Hp → Prop} (h : EG X F vs tg d en st Q) (a0 : At X.K H v d) (a : SOk X.K F st H) (b : EnvAt X.K H σ en) (c : ∀ en' st' σ' H', Q en' st' → SOk X.K F st' H' → EnvAt X.K H' σ' en' → TExt H H' → (σ'.length = σ.length ∧ ∀ j, j ∉ vs → σ'[j]? = σ[j]?) → k σ' H') : anyG X tg v σ H k := ⟨_, h, a0, a, b, c⟩
theorem EGs.intro {vs : List Nat} {tg : List Expr} {d : List D} {Q : Env → Sto → Prop} (h : ∀ v σ H k, Ats X.K H v d → SOk X.K F st H → EnvAt X.K H σ en → (∀ en' st' σ' H', Q en' st' → SOk X.K F st' H' → EnvAt X.K H' σ' en' → TExt H H' → (σ'.length = σ.length ∧ ∀ j, j ∉ vs → σ'[j]? = σ[j]?) → k σ' H') → anyGs X tg v σ H k) : EGs X F vs tg d en st Q :=
  ⟨fun pins s σ H v u k I r ⟨a0, a, b, c⟩ => pgs_any.run pins s σ H v u k I r (h v σ H k a0 a b c)⟩
theorem EGs.use {vs : List Nat} {tg : List Expr} {d : List D} {Q : Env → Sto → Prop} {v : List V} {σ : St} {H : Hp} {k : St → Hp → Prop} (h : EGs X F vs tg d en st Q) (a0 : Ats X.K H v d) (a : SOk X.K F st H) (b : EnvAt X.K H σ en) (c : ∀ en' st' σ' H', Q en' st' → SOk X.K F st' H' → EnvAt X.K H' σ' en' → TExt H H' → (σ'.length = σ.length ∧ ∀ j, j ∉ vs → σ'[j]? = σ[j]?) → k σ' H') : anyGs X tg v σ H k := ⟨_, h, a0, a, b, c⟩
theorem SS.intro {s : Stmt} {N : Env → Sto → Prop} {R : D → Sto → Prop} (h : ∀ σ H D, SOk X.K F st H → EnvAt X.K H σ en → (∀ en' st' σ' H', N en' st' → SOk X.K F st' H' → EnvAt X.K H' σ' en' → TExt H H' → D.nx σ' H') → (∀ d st' v H', R d st' → SOk X.K F st' H' → At X.K H' v d → D.rt v H') → anyS X s D σ H) : SS X F s en st N R :=
  ⟨fun pins s σ H D I ⟨a, b, c, d⟩ => ps_any.run pins s σ H D I (h σ H D a b c d)⟩
theorem SL.intro {s : List Stmt} {N : Env → Sto → Prop} {R : D → Sto → Prop} (h : ∀ σ H D, SOk X.K F st H → EnvAt X.K H σ en → (∀ en' st' σ' H', N en' st' → SOk X.K F st' H' → EnvAt X.K H' σ' en' → TExt H H' → D.nx σ' H') → (∀ d st' v H', R d st' → SOk X.K F st' H' → At X.K H' v d → D.rt v H') → anySs X s D σ H) : SL X F s en st N R :=
  ⟨fun pins s σ H D I ⟨a, b, c, d⟩ => pss_any.run pins s σ H D I (h σ H D a b c d)⟩
theorem SL.use {s : List Stmt} {N : Env → Sto → Prop} {R : D → Sto → Prop} {D : Ends} {σ : St} {H : Hp} (h : SL X F s en st N R) (a : SOk X.K F st H) (b : EnvAt X.K H σ en) (c : ∀ en' st' σ' H', N en' st' → SOk X.K F st' H' → EnvAt X.K H' σ' en' → TExt H H' → D.nx σ' H') (d : ∀ d st' v H', R d st' → SOk X.K F st' H' → At X.K H' v d → D.rt v H') : anySs X s D σ H := ⟨_, h, a, b, c, d⟩

/-! ### where one stands -/
structure Cg (P : Program) (w : World) (K : PySem.W.Frag) (mg : Str → Option Value) (base : Heap) (N G : List Str) (V M : List Nat) (k : Nat) (X : Cx) : Prop where
  eprog : X.prog = P
  ew : X.w = w
  eK : X.K = K
  emg : X.mg = mg
  ebase : X.base = base
  eN : X.N = N
  calm : X.calm = true
  room : Room k X.A
  nd : N.Nodup
  vis : ∀ i x, V.contains i = true → N[i]? = some x → Vis X.env.scope x ∧ (x == ("__debug__" : Str)) = false ∧ (x == ("__classdict__" : Str)) = false
  sto : ∀ i x, M.contains i = true → N[i]? = some x → Loc X.env.scope x ∧ (X.fn x = true ∨ X.env.scope.names.lookup x = some .local)
  gl : ∀ (j : Nat) x, G[j]? = some x → Gl X x ∧ (x == ("__debug__" : Str)) = false ∧ x ≠ "__name__"
  kind : X.env.scope.kind = .function
  own : PassesOwn (model X.prog X.w) X.A X.env X.xe
section
variable {P : Program} {w : World} {K : PySem.W.Frag} {mg : Str → Option Value} {base : Heap} {N Gs : List Str} {Vi M : List Nat} {k : Nat}

/-! ### names and constants -/
theorem ee_var (c : Cg P w K mg base N Gs Vi M k X) {i : Nat} {x : Str} {pos : Pos} {d : D} {Q : D → Sto → Prop} (hN : N[i]? = some x) (hV : Vi.contains i = true) (he : en[i]? = some (some d)) (q : Q d st) : EE X F en (.Name x pos) st Q :=
  .intro fun σ H k a b h => by
    obtain ⟨v, hv, ha⟩ := b.2 i d he
    obtain ⟨h1, h2, h3⟩ := c.vis i x hV hN
    exact ⟨_, pe_var (i := i) (by rw [c.eN]; exact hN) h1 h2 h3, v, hv, h d st v H q a (.refl H) ha⟩
theorem ee_int {i : Int} {j pos} {Q : D → Sto → Prop} (q : Q (.int i) st) : EE X F en (.Constant (.int i) j pos) st Q :=
  .intro fun σ H k a b h => ⟨_, pe_int, h _ _ _ _ q a (.refl H) (at_int.mpr rfl)⟩
theorem ee_bl {i : Bool} {j pos} {Q : D → Sto → Prop} (q : Q (.bl i) st) : EE X F en (.Constant (.bool i) j pos) st Q :=
  .intro fun σ H k a b h => ⟨_, pe_bl, h _ _ _ _ q a (.refl H) (at_bl.mpr rfl)⟩
theorem ee_str {i : Str} {j pos} {Q : D → Sto → Prop} (q : Q (.str i) st) : EE X F en (.Constant (.str i) j pos) st Q :=
  .intro fun σ H k a b h => ⟨_, pe_str, h _ _ _ _ q a (.refl H) (at_str.mpr rfl)⟩
/-- -1 -/
theorem ee_neg {e : Expr} {pos} {Q : D → Sto → Prop} (q : EE X F en e st fun d st1 => ∃ i, d = .int i ∧ Q (.int (-i)) st1) : EE X F en (.UnaryOp .USub e pos) st Q :=
  .intro fun σ H k a b h => ⟨_, pe_un un_neg pe_any, q.use a b fun d st1 v H1 ⟨i, e, q1⟩ a1 t1 at1 => by
    subst e
    exact ⟨i, at_int.mp at1, h _ _ _ _ q1 a1 t1 (at_int.mpr rfl)⟩⟩
/-- a constant of the module -/
def GlD (K : PySem.W.Frag) (mg : Str → Option Value) (x : Str) (d : D) : Prop := ∃ v u, mg x = some u ∧ RelV v u ∧ ∀ H, At K H v d
theorem ee_glob (c : Cg P w K mg base N Gs Vi M k X) {j : Nat} {x : Str} {pos : Pos} {d : D} {Q : D → Sto → Prop} (g : GlD K mg x d) (hj : Gs[j]? = some x) (q : Q d st) : EE X F en (.Name x pos) st Q :=
  .intro fun σ H k a b h => by
    obtain ⟨v, u, hm, r, hd⟩ := g
    obtain ⟨h1, h2, h3⟩ := c.gl j x hj
    exact ⟨_, pe_glob h1 (by rw [c.emg]; exact hm) r h2, h d st v H q a (.refl H) (by rw [c.eK]; exact hd H)⟩

/-! ### argument lists, displays -/
theorem ea_nil {Q : List D → Sto → Prop} (q : Q [] st) : EA X F en [] st Q := .intro fun σ H k a b h => ⟨_, pa_nil, h _ _ _ _ q a (.refl H) (ats_nil.mpr rfl)⟩
theorem ea_cons {e : Expr} {es : List Expr} {Q : List D → Sto → Prop} (q : EE X F en e st fun d st1 => EA X F en es st1 fun ds st2 => Q (d :: ds) st2) (hs : starEach (e :: es) X.env = (false, eval e X.env) :: starEach es X.env := by rfl) : EA X F en (e :: es) st Q :=
  .intro fun σ H k a b h => ⟨_, pa_cons pe_any pa_any hs, q.use a b fun d st1 v H1 q1 a1 t1 at1 => EA.use q1 a1 (b.mono t1) fun ds st2 vs H2 q2 a2 t2 at2 =>
    h _ _ _ _ q2 a2 (t1.trans t2) (ats_cons.mpr ⟨v, vs, rfl, at1.mono t2, at2⟩)⟩
theorem ee_tup {es : List Expr} {x1 pos} {Q : D → Sto → Prop} (q : EA X F en es st fun ds st1 => ds.length ≤ sizeLine ∧ Q (.tup ds) st1) : EE X F en (.Tuple es x1 pos) st Q :=
  .intro fun σ H k a b h => ⟨_, pe_tup pa_any, q.use a b fun ds st1 vs H1 ⟨hl, q1⟩ a1 t1 at1 => ⟨by rw [at1.length]; exact hl, fun p hp => h _ _ _ _ q1 (a1.alloc hp) (t1.trans (.laid hp)) (at_tup.mpr ⟨p, vs, rfl, SqT.of upd_same, at1.mono (.laid hp)⟩)⟩⟩
theorem ee_lst {es : List Expr} {pos} {Q : D → Sto → Prop} (q : EA X F en es st fun ds st1 => ds.length ≤ sizeLine ∧ ∀ p, Q (.ref p) (⟨p, true, .lst ds⟩ :: st1)) : EE X F en (.List es pos) st Q :=
  .intro fun σ H k a b h => ⟨_, pe_lst pa_any, q.use a b fun ds st1 vs H1 ⟨hl, q1⟩ a1 t1 at1 => ⟨by rw [at1.length]; exact hl, fun p hp => h _ _ _ _ (q1 p) (a1.new hp ⟨vs, upd_same, at1.mono (.laid hp)⟩) (t1.trans (.laid hp)) (at_ref.mpr rfl)⟩⟩

/-! ### operators -/
/-- two expressions, then a rule by values that keeps the heap -/
theorem ee_op2 {a b : Expr} {op : Operator} {pos} {r : R2} (ho : OpR X (binaryOp op) r) {Q : D → Sto → Prop} {R : D → D → Sto → Prop}
    (hr : ∀ d1 d2 st' x y H k, R d1 d2 st' → SOk X.K F st' H → At X.K H x d1 → At X.K H y d2 → (∀ d st'' v H', Q d st'' → SOk X.K F st'' H' → TExt H H' → At X.K H' v d → k v H') → r x y H k)
    (q : EE X F en a st fun d1 st1 => EE X F en b st1 fun d2 st2 => R d1 d2 st2) : EE X F en (.BinOp a op b pos) st Q :=
  .intro fun σ H k s e h => ⟨_, pe_op ho pe_any pe_any, q.use s e fun d1 st1 v1 H1 q1 a1 t1 at1 => EE.use q1 a1 (e.mono t1) fun d2 st2 v2 H2 q2 a2 t2 at2 =>
    hr d1 d2 st2 v1 v2 H2 k q2 a2 (at1.mono t2) at2 fun d st'' v H' q a t at' => h d st'' v H' q a ((t1.trans t2).trans t) at'⟩
theorem ee_add {a b : Expr} {pos} {Q : D → Sto → Prop} (q : EE X F en a st fun d1 st1 => EE X F en b st1 fun d2 st2 => ∃ i j, d1 = .int i ∧ d2 = .int j ∧ Q (.int (i + j)) st2) : EE X F en (.BinOp a .Add b pos) st Q :=
  ee_op2 op_add (fun d1 d2 st' x y H k ⟨i, j, e1, e2, q⟩ s a1 a2 h => by subst e1; subst e2; exact ⟨i, j, at_int.mp a1, at_int.mp a2, h _ _ _ _ q s (.refl H) (at_int.mpr rfl)⟩) q
theorem ee_sub {a b : Expr} {pos} {Q : D → Sto → Prop} (q : EE X F en a st fun d1 st1 => EE X F en b st1 fun d2 st2 => ∃ i j, d1 = .int i ∧ d2 = .int j ∧ Q (.int (i - j)) st2) : EE X F en (.BinOp a .Sub b pos) st Q :=
  ee_op2 op_sub (fun d1 d2 st' x y H k ⟨i, j, e1, e2, q⟩ s a1 a2 h => by subst e1; subst e2; exact ⟨i, j, at_int.mp a1, at_int.mp a2, h _ _ _ _ q s (.refl H) (at_int.mpr rfl)⟩) q
theorem ee_mul {a b : Expr} {pos} {Q : D → Sto → Prop} (q : EE X F en a st fun d1 st1 => EE X F en b st1 fun d2 st2 => ∃ i j, d1 = .int i ∧ d2 = .int j ∧ CMulW i j ∧ Q (.int (i * j)) st2) : EE X F en (.BinOp a .Mult b pos) st Q :=
  ee_op2 op_mulW (fun d1 d2 st' x y H k ⟨i, j, e1, e2, c, q⟩ s a1 a2 h => by subst e1; subst e2; exact ⟨i, j, at_int.mp a1, at_int.mp a2, c, h _ _ _ _ q s (.refl H) (at_int.mpr rfl)⟩) q
/-- one factor small -/
theorem ee_mulS {a b : Expr} {pos} {Q : D → Sto → Prop} (q : EE X F en a st fun d1 st1 => EE X F en b st1 fun d2 st2 => ∃ i j, d1 = .int i ∧ d2 = .int j ∧ CMul i j ∧ Q (.int (i * j)) st2) : EE X F en (.BinOp a .Mult b pos) st Q :=
  ee_op2 op_mul (fun d1 d2 st' x y H k ⟨i, j, e1, e2, c, q⟩ s a1 a2 h => by subst e1; subst e2; exact ⟨i, j, at_int.mp a1, at_int.mp a2, c, h _ _ _ _ q s (.refl H) (at_int.mpr rfl)⟩) q
theorem ee_mod {a b : Expr} {pos} {Q : D → Sto → Prop} (q : EE X F en a st fun d1 st1 => EE X F en b st1 fun d2 st2 => ∃ i j, d1 = .int i ∧ d2 = .int j ∧ j ≠ 0 ∧ Q (.int (i.fmod j)) st2) : EE X F en (.BinOp a .Mod b pos) st Q :=
  ee_op2 op_modN (fun d1 d2 st' x y H k ⟨i, j, e1, e2, c, q⟩ s a1 a2 h => by subst e1; subst e2; exact ⟨i, j, at_int.mp a1, at_int.mp a2, c, h _ _ _ _ q s (.refl H) (at_int.mpr rfl)⟩) q
/-- // by a divisor of any sign below 2 ^ 9000 -/
def CDivA (_ j : Int) : Prop := j ≠ 0 ∧ j.natAbs.log2 < 9000
theorem op_fdivA : OpR X (binaryOp .FloorDiv) (rI CDivA fun i j => .int (i.fdiv j)) := opI fun _ _ _ _ _ _ _ hc q => floordiv_int hc.1 q (.inl (PyProof.noPylong_of_log2 hc.2))
theorem ee_fdiv {a b : Expr} {pos} {Q : D → Sto → Prop} (q : EE X F en a st fun d1 st1 => EE X F en b st1 fun d2 st2 => ∃ i j, d1 = .int i ∧ d2 = .int j ∧ CDivA i j ∧ Q (.int (i.fdiv j)) st2) : EE X F en (.BinOp a .FloorDiv b pos) st Q :=
  ee_op2 op_fdivA (fun d1 d2 st' x y H k ⟨i, j, e1, e2, c, q⟩ s a1 a2 h => by subst e1; subst e2; exact ⟨i, j, at_int.mp a1, at_int.mp a2, c, h _ _ _ _ q s (.refl H) (at_int.mpr rfl)⟩) q
theorem ee_pow {a b : Expr} {pos} {Q : D → Sto → Prop} (q : EE X F en a st fun d1 st1 => EE X F en b st1 fun d2 st2 => ∃ i j, d1 = .int i ∧ d2 = .int j ∧ CPow i j ∧ Q (.int (i ^ j.toNat)) st2) : EE X F en (.BinOp a .Pow b pos) st Q :=
  ee_op2 op_pow (fun d1 d2 st' x y H k ⟨i, j, e1, e2, c, q⟩ s a1 a2 h => by subst e1; subst e2; exact ⟨i, j, at_int.mp a1, at_int.mp a2, c, h _ _ _ _ q s (.refl H) (at_int.mpr rfl)⟩) q

/-! ### comparisons -/
theorem ee_cmp2 {a b : Expr} {op : CmpOp} {pos} {r : R2} (ho : OpR X (compareOp op) r) (hm : behindInMarks op b = false) {Q : D → Sto → Prop} {R : D → D → Sto → Prop}
    (hr : ∀ d1 d2 st' x y H k, R d1 d2 st' → SOk X.K F st' H → At X.K H x d1 → At X.K H y d2 → (∀ d st'' v H', Q d st'' → SOk X.K F st'' H' → TExt H H' → At X.K H' v d → k v H') → r x y H k)
    (q : EE X F en a st fun d1 st1 => EE X F en b st1 fun d2 st2 => R d1 d2 st2) : EE X F en (.Compare a [op] [b] pos) st Q :=
  .intro fun σ H k s e h => ⟨_, pe_cmpR ho pe_any pe_any hm, q.use s e fun d1 st1 v1 H1 q1 a1 t1 at1 => EE.use q1 a1 (e.mono t1) fun d2 st2 v2 H2 q2 a2 t2 at2 =>
    hr d1 d2 st2 v1 v2 H2 k q2 a2 (at1.mono t2) at2 fun d st'' v H' q a t at' => h d st'' v H' q a ((t1.trans t2).trans t) at'⟩
/-- a comparison as a test: the value is a bool -/
theorem et_cmp {a b : Expr} {op : CmpOp} {pos} {r : R2} (ho : OpR X (compareOp op) r) (hm : behindInMarks op b = false) {Q : Bool → Sto → Prop} {R : D → D → Sto → Prop}
    (hr : ∀ d1 d2 st' x y H k, R d1 d2 st' → SOk X.K F st' H → At X.K H x d1 → At X.K H y d2 → (∀ b st'' H', Q b st'' → SOk X.K F st'' H' → TExt H H' → k (.bl b) H') → r x y H k)
    (q : EE X F en a st fun d1 st1 => EE X F en b st1 fun d2 st2 => R d1 d2 st2) : ET X F en (.Compare a [op] [b] pos) st Q :=
  .intro fun σ H k s e h => ⟨_, pt_cmpR ho pe_any pe_any hm, q.use s e fun d1 st1 v1 H1 q1 a1 t1 at1 => EE.use q1 a1 (e.mono t1) fun d2 st2 v2 H2 q2 a2 t2 at2 =>
    hr d1 d2 st2 v1 v2 H2 _ q2 a2 (at1.mono t2) at2 fun b st'' H' q a t => ⟨b, rfl, h b st'' H' q a ((t1.trans t2).trans t)⟩⟩
/-- two ways -/
def Two (c : Prop) (Q : Bool → Sto → Prop) (st : Sto) : Prop := (c → Q true st) ∧ (¬ c → Q false st)
theorem Two.of {c : Prop} [Decidable c] {Q : Bool → Sto → Prop} {st : Sto} (h : Two c Q st) : Q (decide c) st := by
  by_cases e : c
  · rw [decide_eq_true e]; exact h.1 e
  · rw [decide_eq_false e]; exact h.2 e
theorem Two.ofN {c : Prop} [Decidable c] {Q : Bool → Sto → Prop} {st : Sto} (h : Two (¬ c) Q st) : Q (!decide c) st := by
  by_cases e : c
  · rw [decide_eq_true e]; exact h.2 (fun z => z e)
  · rw [decide_eq_false e]; exact h.1 e
theorem et_lt {a b : Expr} {pos} {Q : Bool → Sto → Prop} (q : EE X F en a st fun d1 st1 => EE X F en b st1 fun d2 st2 => ∃ i j, d1 = .int i ∧ d2 = .int j ∧ Two (i < j) Q st2) : ET X F en (.Compare a [.Lt] [b] pos) st Q :=
  et_cmp op_lt (nomark _) (fun d1 d2 st' x y H k ⟨i, j, e1, e2, q⟩ s a1 a2 h => by subst e1; subst e2; exact ⟨i, j, at_int.mp a1, at_int.mp a2, h _ _ _ q.of s (.refl H)⟩) q
theorem et_le {a b : Expr} {pos} {Q : Bool → Sto → Prop} (q : EE X F en a st fun d1 st1 => EE X F en b st1 fun d2 st2 => ∃ i j, d1 = .int i ∧ d2 = .int j ∧ Two (i ≤ j) Q st2) : ET X F en (.Compare a [.LtE] [b] pos) st Q :=
  et_cmp op_le (nomark _) (fun d1 d2 st' x y H k ⟨i, j, e1, e2, q⟩ s a1 a2 h => by subst e1; subst e2; exact ⟨i, j, at_int.mp a1, at_int.mp a2, h _ _ _ q.of s (.refl H)⟩) q
theorem et_gt {a b : Expr} {pos} {Q : Bool → Sto → Prop} (q : EE X F en a st fun d1 st1 => EE X F en b st1 fun d2 st2 => ∃ i j, d1 = .int i ∧ d2 = .int j ∧ Two (j < i) Q st2) : ET X F en (.Compare a [.Gt] [b] pos) st Q :=
  et_cmp op_gt (nomark _) (fun d1 d2 st' x y H k ⟨i, j, e1, e2, q⟩ s a1 a2 h => by subst e1; subst e2; exact ⟨i, j, at_int.mp a1, at_int.mp a2, h _ _ _ q.of s (.refl H)⟩) q
theorem et_eqI {a b : Expr} {pos} {Q : Bool → Sto → Prop} (q : EE X F en a st fun d1 st1 => EE X F en b st1 fun d2 st2 => ∃ i j, d1 = .int i ∧ d2 = .int j ∧ Two (i = j) Q st2) : ET X F en (.Compare a [.Eq] [b] pos) st Q :=
  et_cmp op_eq (nomark _) (fun d1 d2 st' x y H k ⟨i, j, e1, e2, q⟩ s a1 a2 h => by
    subst e1; subst e2
    rw [at_int.mp a1, at_int.mp a2]
    refine ⟨rfl, ?_⟩
    have e : decide (V.int i = V.int j) = decide (i = j) := by rw [dec_int, Bool.beq_eq_decide_eq]
    rw [e]
    exact h _ _ _ q.of s (.refl H)) q
theorem et_neI {a b : Expr} {pos} {Q : Bool → Sto → Prop} (q : EE X F en a st fun d1 st1 => EE X F en b st1 fun d2 st2 => ∃ i j, d1 = .int i ∧ d2 = .int j ∧ Two (¬ i = j) Q st2) : ET X F en (.Compare a [.NotEq] [b] pos) st Q :=
  et_cmp op_ne (nomark _) (fun d1 d2 st' x y H k ⟨i, j, e1, e2, q⟩ s a1 a2 h => by
    subst e1; subst e2
    rw [at_int.mp a1, at_int.mp a2]
    refine ⟨rfl, ?_⟩
    have e : decide (V.int i = V.int j) = decide (i = j) := by rw [dec_int, Bool.beq_eq_decide_eq]
    rw [e]
    exact h _ _ _ q.ofN s (.refl H)) q
/-- a comparison as a value -/
theorem ee_eqI {a b : Expr} {pos} {Q : D → Sto → Prop} (q : EE X F en a st fun d1 st1 => EE X F en b st1 fun d2 st2 => ∃ i j, d1 = .int i ∧ d2 = .int j ∧ Q (.bl (decide (i = j))) st2) : EE X F en (.Compare a [.Eq] [b] pos) st Q :=
  ee_cmp2 op_eq (nomark _) (fun d1 d2 st' x y H k ⟨i, j, e1, e2, q⟩ s a1 a2 h => by
    subst e1; subst e2
    rw [at_int.mp a1, at_int.mp a2]
    refine ⟨rfl, ?_⟩
    have e : decide (V.int i = V.int j) = decide (i = j) := by rw [dec_int, Bool.beq_eq_decide_eq]
    rw [e]
    exact h _ _ _ _ q s (.refl H) (at_bl.mpr rfl)) q
theorem ee_gt {a b : Expr} {pos} {Q : D → Sto → Prop} (q : EE X F en a st fun d1 st1 => EE X F en b st1 fun d2 st2 => ∃ i j, d1 = .int i ∧ d2 = .int j ∧ Q (.bl (decide (j < i))) st2) : EE X F en (.Compare a [.Gt] [b] pos) st Q :=
  ee_cmp2 op_gt (nomark _) (fun d1 d2 st' x y H k ⟨i, j, e1, e2, q⟩ s a1 a2 h => by subst e1; subst e2; exact ⟨i, j, at_int.mp a1, at_int.mp a2, h _ _ _ _ q s (.refl H) (at_bl.mpr rfl)⟩) q
theorem ee_le {a b : Expr} {pos} {Q : D → Sto → Prop} (q : EE X F en a st fun d1 st1 => EE X F en b st1 fun d2 st2 => ∃ i j, d1 = .int i ∧ d2 = .int j ∧ Q (.bl (decide (i ≤ j))) st2) : EE X F en (.Compare a [.LtE] [b] pos) st Q :=
  ee_cmp2 op_le (nomark _) (fun d1 d2 st' x y H k ⟨i, j, e1, e2, q⟩ s a1 a2 h => by subst e1; subst e2; exact ⟨i, j, at_int.mp a1, at_int.mp a2, h _ _ _ _ q s (.refl H) (at_bl.mpr rfl)⟩) q
/-- a value that is a bool, as a test -/
theorem et_val {e : Expr} {Q : Bool → Sto → Prop} (q : EE X F en e st fun d st1 => ∃ b, d = .bl b ∧ Q b st1) (he : ∀ whole, isTrue e X.env whole = (do let v ← whole; standAt e.pos; holding [v] (truthy v)) := by intro _; rfl) : ET X F en e st Q :=
  .intro fun σ H k s en h => ⟨_, pt_val pe_any he, q.use s en fun d st1 v H1 ⟨b, e, q1⟩ a1 t1 at1 => by
    subst e
    exact ⟨b, at_bl.mp at1, h b st1 H1 q1 a1 t1⟩⟩
/-- not, and, or: tests -/
theorem et_not {e : Expr} {pos} {Q : Bool → Sto → Prop} (q : ET X F en e st fun b st1 => Q (!b) st1) : ET X F en (.UnaryOp .Not e pos) st Q :=
  .intro fun σ H k s en h => ⟨_, pt_not pt_any, q.use s en fun b st1 H1 q1 a1 t1 => h _ _ _ q1 a1 t1⟩
theorem ew_pt {e : Expr} {Q : Bool → Sto → Prop} (q : EW X F en e st Q) : ET X F en e st Q := PW.pt q
theorem ew_and1 {a : Expr} {pos} {Q : Bool → Sto → Prop} (q : ET X F en a st Q) : EW X F en (.BoolOp .And [a] pos) st Q := pw_and1 q
theorem ew_or1 {a : Expr} {pos} {Q : Bool → Sto → Prop} (q : ET X F en a st Q) : EW X F en (.BoolOp .Or [a] pos) st Q := pw_or1 q
theorem ew_and {a b : Expr} {rest : List Expr} {pos} {Q : Bool → Sto → Prop} (q : ET X F en a st fun c st1 => (c = true → EW X F en (.BoolOp .And (b :: rest) pos) st1 Q) ∧ (c = false → Q false st1)) : EW X F en (.BoolOp .And (a :: b :: rest) pos) st Q :=
  .intro fun σ H k s e h => ⟨_, pw_and pt_any pw_any, q.use s e fun c st1 H1 q1 a1 t1 => by
    cases c with
    | true =>
      rw [if_pos rfl]
      exact (q1.1 rfl).use a1 (e.mono t1) fun b st2 H2 q2 a2 t2 => h b st2 H2 q2 a2 (t1.trans t2)
    | false =>
      rw [if_neg Bool.false_ne_true]
      exact h false st1 H1 (q1.2 rfl) a1 t1⟩
theorem ew_or {a b : Expr} {rest : List Expr} {pos} {Q : Bool → Sto → Prop} (q : ET X F en a st fun c st1 => (c = true → Q true st1) ∧ (c = false → EW X F en (.BoolOp .Or (b :: rest) pos) st1 Q)) : EW X F en (.BoolOp .Or (a :: b :: rest) pos) st Q :=
  .intro fun σ H k s e h => ⟨_, pw_or pt_any pw_any, q.use s e fun c st1 H1 q1 a1 t1 => by
    cases c with
    | false =>
      rw [if_neg Bool.false_ne_true]
      exact (q1.2 rfl).use a1 (e.mono t1) fun b st2 H2 q2 a2 t2 => h b st2 H2 q2 a2 (t1.trans t2)
    | true =>
      rw [if_pos rfl]
      exact h true st1 H1 (q1.1 rfl) a1 t1⟩
/-- and, or, not as values, all bools -/
theorem ee_one {op} {a : Expr} {pos} {Q : D → Sto → Prop} (q : EE X F en a st Q) : EE X F en (.BoolOp op [a] pos) st Q := pe_one q
theorem ee_and {a b : Expr} {rest : List Expr} {pos} {Q : D → Sto → Prop} (q : EE X F en a st fun d st1 => ∃ c, d = .bl c ∧ (c = true → EE X F en (.BoolOp .And (b :: rest) pos) st1 Q) ∧ (c = false → Q (.bl false) st1)) : EE X F en (.BoolOp .And (a :: b :: rest) pos) st Q :=
  .intro fun σ H k s e h => ⟨_, pe_and pe_any pe_any, q.use s e fun d st1 v H1 ⟨c, e1, q1⟩ a1 t1 at1 => by
    subst e1
    refine ⟨c, at_bl.mp at1, ?_⟩
    cases c with
    | true =>
      rw [if_pos rfl]
      exact (q1.1 rfl).use a1 (e.mono t1) fun b st2 v2 H2 q2 a2 t2 at2 => h b st2 v2 H2 q2 a2 (t1.trans t2) at2
    | false =>
      rw [if_neg Bool.false_ne_true]
      exact h _ st1 _ H1 (q1.2 rfl) a1 t1 (at_bl.mpr rfl)⟩
theorem ee_or {a b : Expr} {rest : List Expr} {pos} {Q : D → Sto → Prop} (q : EE X F en a st fun d st1 => ∃ c, d = .bl c ∧ (c = true → Q (.bl true) st1) ∧ (c = false → EE X F en (.BoolOp .Or (b :: rest) pos) st1 Q)) : EE X F en (.BoolOp .Or (a :: b :: rest) pos) st Q :=
  .intro fun σ H k s e h => ⟨_, pe_or pe_any pe_any, q.use s e fun d st1 v H1 ⟨c, e1, q1⟩ a1 t1 at1 => by
    subst e1
    refine ⟨c, at_bl.mp at1, ?_⟩
    cases c with
    | false =>
      rw [if_neg Bool.false_ne_true]
      exact (q1.2 rfl).use a1 (e.mono t1) fun b st2 v2 H2 q2 a2 t2 at2 => h b st2 v2 H2 q2 a2 (t1.trans t2) at2
    | true =>
      rw [if_pos rfl]
      exact h _ st1 _ H1 (q1.1 rfl) a1 t1 (at_bl.mpr rfl)⟩
theorem ee_not {a : Expr} {pos} {Q : D → Sto → Prop} (q : EE X F en a st fun d st1 => ∃ c, d = .bl c ∧ Q (.bl (!c)) st1) : EE X F en (.UnaryOp .Not a pos) st Q :=
  .intro fun σ H k s e h => ⟨_, pe_not pe_any, q.use s e fun d st1 v H1 ⟨c, e1, q1⟩ a1 t1 at1 => by
    subst e1
    exact ⟨c, at_bl.mp at1, h _ _ _ _ q1 a1 t1 (at_bl.mpr rfl)⟩⟩
theorem ee_ifx {c a b : Expr} {pos} {Q : D → Sto → Prop} (q : ET X F en c st fun t st1 => (t = true → EE X F en a st1 Q) ∧ (t = false → EE X F en b st1 Q)) : EE X F en (.IfExp c a b pos) st Q :=
  .intro fun σ H k s e h => ⟨_, pe_ifExp pt_any pe_any pe_any, q.use s e fun t st1 H1 q1 a1 t1 => by
    cases t with
    | true =>
      rw [if_pos rfl]
      exact (q1.1 rfl).use a1 (e.mono t1) fun b st2 v2 H2 q2 a2 t2 at2 => h b st2 v2 H2 q2 a2 (t1.trans t2) at2
    | false =>
      rw [if_neg Bool.false_ne_true]
      exact (q1.2 rfl).use a1 (e.mono t1) fun b st2 v2 H2 q2 a2 t2 at2 => h b st2 v2 H2 q2 a2 (t1.trans t2) at2⟩

/-! ### statements -/
variable {Nn : Env → Sto → Prop} {R : D → Sto → Prop}
theorem sl_nil (q : Nn en st) : SL X F [] en st Nn R := .intro fun σ H D s e n r => ⟨_, pss_nil, n _ _ _ _ q s e (.refl H)⟩
theorem sl_cons {s : Stmt} {rest : List Stmt} (q : SS X F s en st (fun en1 st1 => SL X F rest en1 st1 Nn R) R) : SL X F (s :: rest) en st Nn R :=
  .intro fun σ H D a e n r => ⟨_, pss_cons q pss_any, a, e, fun en' st' σ' H' q1 a1 e1 t1 => q1.use a1 e1 (fun en2 st2 σ2 H2 q2 a2 e2 t2 => n en2 st2 σ2 H2 q2 a2 e2 (t1.trans t2)) r, r⟩
theorem ss_pass {pos} (q : Nn en st) : SS X F (.Pass pos) en st Nn R := .intro fun σ H D a e n r => ⟨_, ps_pass, n _ _ _ _ q a e (.refl H)⟩
theorem ss_never {s : Stmt} (h : False) : SS X F s en st Nn R := h.elim
theorem ss_ret {e : Expr} {pos} (q : EE X F en e st R) : SS X F (.Return (some e) pos) en st Nn R :=
  .intro fun σ H D a b n r => ⟨_, ps_ret pe_any, q.use a b fun d st1 v H1 q1 a1 t1 at1 => r _ _ _ _ q1 a1 at1⟩
theorem ss_expr {e : Expr} {pos} (q : EE X F en e st fun _ st1 => Nn en st1) (hs : swapsWith e none pos.line X.env = pure false := by rfl) : SS X F (.Expr e pos) en st Nn R :=
  .intro fun σ H D a b n r => ⟨_, ps_expr pe_any hs, q.use a b fun d st1 v H1 q1 a1 t1 at1 => n _ _ _ _ q1 a1 (b.mono t1) t1⟩
theorem ss_if {c : Expr} {s1 s2 : List Stmt} {pos} (q : ET X F en c st fun t st1 => (t = true → SL X F s1 en st1 Nn R) ∧ (t = false → SL X F s2 en st1 Nn R)) : SS X F (.If c s1 s2 pos) en st Nn R :=
  .intro fun σ H D a b n r => ⟨_, ps_if pt_any pss_any pss_any, q.use a b fun t st1 H1 q1 a1 t1 => by
    cases t with
    | true => rw [if_pos rfl]; exact (q1.1 rfl).use a1 (b.mono t1) (fun en2 st2 σ2 H2 q2 a2 e2 t2 => n en2 st2 σ2 H2 q2 a2 e2 (t1.trans t2)) r
    | false => rw [if_neg Bool.false_ne_true]; exact (q1.2 rfl).use a1 (b.mono t1) (fun en2 st2 σ2 H2 q2 a2 e2 t2 => n en2 st2 σ2 H2 q2 a2 e2 (t1.trans t2)) r⟩
/-- one slot set -/
inductive ESet : Env → Nat → D → Env → Prop
  | here {x r d} : ESet (x :: r) 0 d (some d :: r)
  | there {x r i d r'} : ESet r i d r' → ESet (x :: r) (i + 1) d (x :: r')
theorem ESet.eq {en en' : Env} {i : Nat} {d : D} (h : ESet en i d en') : en' = en.set i (some d) := by
  induction h with
  | here => rfl
  | there _ ih => rw [ih]; rfl
theorem ss_set (c : Cg P w K mg base N Gs Vi M k X) {i : Nat} {x : Str} {e : Expr} {pos pos' : Pos} (hN : N[i]? = some x) (hM : M.contains i = true) (q : EE X F en e st fun d st1 => ∃ en', ESet en i d en' ∧ Nn en' st1)
    (hs : swapsWith e (some (.Name x pos')) pos.line X.env = pure false := by rfl) : SS X F (.Assign [.Name x pos'] e pos) en st Nn R :=
  .intro fun σ H D a b n r => by
    obtain ⟨h1, h2⟩ := c.sto i x hM hN
    refine ⟨_, ps_set (i := i) (by rw [c.eN]; exact c.nd) (by rw [c.eN]; exact hN) h1 pe_any hs h2, q.use a b fun d st1 v H1 ⟨en', es, q1⟩ a1 t1 at1 => ?_⟩
    exact n en' st1 _ H1 q1 a1 (by rw [es.eq]; exact (b.mono t1).set at1) t1
/-- targets -/
theorem eg_name (c : Cg P w K mg base N Gs Vi M k X) {vs : List Nat} {i : Nat} {x : Str} {pos : Pos} {d : D} {Q : Env → Sto → Prop} (hN : N[i]? = some x) (hM : M.contains i = true) (hv : i ∈ vs) {en' : Env} (es : ESet en i d en') (q : Q en' st) : EG X F vs (.Name x pos) d en st Q :=
  .intro fun v σ H k a0 a b h => by
    obtain ⟨h1, h2⟩ := c.sto i x hM hN
    refine ⟨_, pg_name (i := i) (by rw [c.eN]; exact c.nd) (by rw [c.eN]; exact hN) h1 h2, h en' st _ H q a (by rw [es.eq]; exact b.set a0) (.refl H) ⟨by simp, fun j hj => ?_⟩⟩
    exact List.getElem?_set_ne (fun e : i = j => hj (by rw [← e]; exact hv))
theorem egs_nil {vs : List Nat} {Q : Env → Sto → Prop} (q : Q en st) : EGs X F vs [] [] en st Q := .intro fun v σ H k a0 a b h => ⟨_, pgs_nil, ats_nil.mp a0, h _ _ _ _ q a b (.refl H) ⟨rfl, fun _ _ => rfl⟩⟩
theorem egs_cons {vs : List Nat} {tg : Expr} {tgs : List Expr} {d : D} {ds : List D} {Q : Env → Sto → Prop} (q : EG X F vs tg d en st fun en1 st1 => EGs X F vs tgs ds en1 st1 Q)
    (hs : (assignEach (tg :: tgs) X.env).map (·.2) = assign tg X.env :: (assignEach tgs X.env).map (·.2) := by rfl) : EGs X F vs (tg :: tgs) (d :: ds) en st Q :=
  .intro fun v σ H k a0 a b h => by
    obtain ⟨v1, r, rfl, h1, h2⟩ := ats_cons.mp a0
    refine ⟨_, pgs_cons pg_any pgs_any hs, v1, r, rfl, q.use h1 a b fun en1 st1 σ1 H1 q1 a1 b1 t1 l1 => ?_⟩
    exact EGs.use q1 (h2.mono t1) a1 b1 fun en2 st2 σ2 H2 q2 a2 b2 t2 l2 => h en2 st2 σ2 H2 q2 a2 b2 (t1.trans t2) ⟨l2.1.trans l1.1, fun j hj => (l2.2 j hj).trans (l1.2 j hj)⟩
theorem eg_tup (c : Cg P w K mg base N Gs Vi M k X) {vs : List Nat} {es : List Expr} {k' : Nat} {pos : Pos} {ds : List D} {n : Nat} {Q : Env → Sto → Prop} (q : EGs X F vs es ds en st Q) (hl : ds.length = n) (hn : (assignEach es X.env).length = n := by rfl) (hst : (assignEach es X.env).findIdx? (·.1) = none := by rfl) :
    EG X F vs (.Tuple es k' pos) (.tup ds) en st Q :=
  .intro fun v σ H k a0 a b h => by
    obtain ⟨p, xs, rfl, h1, h2⟩ := at_tup.mp a0
    exact ⟨_, pg_tup c.calm pgs_any hn hst, p, xs, rfl, h1, h2.length.trans hl, EGs.use q h2 a b h⟩
theorem ss_asg {vs : List Nat} {tg e : Expr} {pos : Pos} (q : EE X F en e st fun d st1 => EG X F vs tg d en st1 Nn) (hs : swapsWithSole [tg] e pos.line X.env = pure false := by rfl) (hw : swappedStores [tg] e X.env = pure none := by rfl)
    (h1 : (assignEach [tg] X.env).map (·.2) = [assign tg X.env] := by rfl) : SS X F (.Assign [tg] e pos) en st Nn R :=
  .intro fun σ H D a b n r => ⟨_, ps_asg pe_any pg_any hs hw h1, q.use a b fun d st1 v H1 q1 a1 t1 at1 => EG.use q1 at1 a1 (b.mono t1) fun en' st' σ' H' q2 a2 b2 t2 l2 => n _ _ _ _ q2 a2 b2 (t1.trans t2)⟩
/-- a, b = e1, e2 -/
theorem ss_par (c : Cg P w K mg base N Gs Vi M k X) {i j : Nat} {x y : Str} {e1 e2 : Expr} {px py pt pos : Pos} {kt k2 pt2} (hi : N[i]? = some x) (hj : N[j]? = some y) (hij : i ≠ j) (hM : M.contains i = true) (hM' : M.contains j = true)
    (hx : X.env.scope.names.lookup x = some .local) (hy : X.env.scope.names.lookup y = some .local)
    (q : EA X F en [e1, e2] st fun ds st1 => ∃ d1 d2 en1 en2, ds = [d1, d2] ∧ ESet en i d1 en1 ∧ ESet en1 j d2 en2 ∧ Nn en2 st1)
    (hw : swappedStores [.Tuple [.Name x px, .Name y py] kt pt] (.Tuple [e1, e2] k2 pt2) X.env = pure (some [x, y]))
    (hs : swapsWithSole [.Tuple [.Name x px, .Name y py] kt pt] (.Tuple [e1, e2] k2 pt2) pos.line X.env = pure false := by rfl) : SS X F (.Assign [.Tuple [.Name x px, .Name y py] kt pt] (.Tuple [e1, e2] k2 pt2) pos) en st Nn R :=
  .intro fun σ H D a b n r => by
    refine ⟨_, ps_par (i := i) (j := j) c.calm (by rw [c.eN]; exact c.nd) (by rw [c.eN]; exact hi) (by rw [c.eN]; exact hj) hij hx hy pa_any hw hs, q.use a b fun ds st1 vs H1 ⟨d1, d2, en1, en2, e, s1, s2, q1⟩ a1 t1 at1 => ?_⟩
    subst e
    obtain ⟨v1, r1, rfl, h1, h2⟩ := ats_cons.mp at1
    obtain ⟨v2, r2, rfl, h3, h4⟩ := ats_cons.mp h2
    obtain rfl := ats_nil.mp h4
    refine ⟨v1, v2, rfl, n en2 st1 _ H1 q1 a1 ?_ t1⟩
    rw [s2.eq, s1.eq]
    exact ((b.mono t1).set h1).set h3
end
end G
end
section
set_option Elab.async false
set_option linter.all false
set_option maxRecDepth 100000
set_option maxHeartbeats 4000000
/-! G3: promises of defs, calls, subscripts, loops. -/
namespace G
open PySem L2
variable {X : Cx} {F : Fr} {en : Env} {st : Sto} {P : Program} {w : World} {K : PySem.W.Frag} {mg : Str → Option Value} {base : Heap} {N Gs : List Str} {Vi M : List Nat} {k : Nat}

/-! ### promises -/
/-- what a def wants of the store and its arguments, what it hands back -/
abbrev Spec := Sto → List D → (D → Sto → Prop) → Prop
def wr (st : Sto) : List Addr := (st.filter (·.w)).map Ent.p
theorem mem_wr {st : Sto} {p : Addr} : p ∈ wr st ↔ ∃ o, ⟨p, true, o⟩ ∈ st := by
  unfold wr
  rw [List.mem_map]
  constructor
  · rintro ⟨⟨q, b, o⟩, he, rfl⟩
    obtain ⟨h1, h2⟩ := List.mem_filter.mp he
    have h2 : b = true := h2
    subst h2
    exact ⟨o, h1⟩
  · rintro ⟨o, he⟩
    exact ⟨_, List.mem_filter.mpr ⟨he, rfl⟩, rfl⟩
def spW (K : PySem.W.Frag) (n : Nat) (W : Spec) : Sp := fun vs H Q _ => ∃ want ds R, W want ds R ∧ ds.length = n ∧ Ats K H vs ds ∧ (∀ e ∈ want, ObjAt K H e.p e.w e.o) ∧ (want.map Ent.p).Nodup ∧
  ∀ d st' v H', R d st' → (∀ e ∈ st', e.w = true) → SOk K ⟨wr want, H⟩ st' H' → At K H' v d → Q v H'
structure Fn (P : Program) (w : World) (K : PySem.W.Frag) (mg : Str → Option Value) (base : Heap) (x : Str) (k n : Nat) (dds : List D) (W : Spec) : Prop where
  ex : ∃ (f : Addr) (fd : FuncData) (ps : List Str) (dvs : List V) (ds : List Value), ps.length = n ∧ mg x = some (.ref f) ∧ PySem.W.keepIn K (.ref f) = true ∧ Binds K fd ps ds ∧ Vals dvs ds ∧ (∀ H, Ats K H dvs dds) ∧ FnOk P w K mg base CX0 k f fd ps (spW K n W)
/-- a value returned, with a part of the store -/
def Ret (R : D → Sto → Prop) : D → Sto → Prop := fun d st'' => ∃ st', st'.Sublist st'' ∧ (∀ e ∈ st', e.w = true) ∧ R d st'
theorem Ret.pure {R : D → Sto → Prop} {d : D} {st : Sto} (h : R d []) : Ret R d st := ⟨[], List.nil_sublist _, (fun e he => by cases he), h⟩

def chk (sc : Scope) (N G : List Str) (Vi : List Nat) : Bool :=
  (Vi.all fun i => match N[i]? with
    | none => true
    | some x => (match sc.names.lookup x with | some .local => true | some .cell => true | _ => false) && !(x == ("__debug__" : Str)) && !(x == ("__classdict__" : Str))) &&
  (G.all fun x => (match sc.names.lookup x with | some .globalImplicit => true | _ => false) && !(x == ("__debug__" : Str)) && decide (x ≠ "__name__"))
theorem chk_vis {sc : Scope} {N G : List Str} {Vi : List Nat} (h : chk sc N G Vi = true) {i : Nat} {x : Str} (hi : Vi.contains i = true) (hN : N[i]? = some x) : Loc sc x ∧ (x == ("__debug__" : Str)) = false ∧ (x == ("__classdict__" : Str)) = false := by
  unfold chk at h
  rw [Bool.and_eq_true, List.all_eq_true] at h
  have q := h.1 i (by simpa using hi)
  rw [hN] at q
  simp only [Bool.and_eq_true, Bool.not_eq_true'] at q
  obtain ⟨⟨q1, q2⟩, q3⟩ := q
  refine ⟨?_, q2, q3⟩
  split at q1
  · exact .inl (by assumption)
  · exact .inr (by assumption)
  · cases q1
theorem chk_gl {sc : Scope} {N G : List Str} {Vi : List Nat} (h : chk sc N G Vi = true) {j : Nat} {x : Str} (hj : G[j]? = some x) : sc.names.lookup x = some .globalImplicit ∧ (x == ("__debug__" : Str)) = false ∧ x ≠ "__name__" := by
  unfold chk at h
  rw [Bool.and_eq_true, List.all_eq_true, List.all_eq_true] at h
  have q := h.2 x (List.mem_of_getElem? hj)
  simp only [Bool.and_eq_true, Bool.not_eq_true', decide_eq_true_eq] at q
  obtain ⟨⟨q1, q2⟩, q3⟩ := q
  refine ⟨?_, q2, q3⟩
  split at q1
  · assumption
  · cases q1

theorem startAt {K : PySem.W.Frag} {H : Hp} {vs : List V} {ds : List D} {N : List Str} (h : Ats K H vs ds) (hl : ds.length ≤ N.length) : EnvAt K H (L2.start N vs) (ds.map some ++ List.replicate (N.length - ds.length) none) := by
  have e := h.length
  refine ⟨?_, fun i d q => ?_⟩
  · unfold L2.start
    simp [e]
  · have hi : i < ds.length := by
      by_cases hi : i < ds.length
      · exact hi
      · rw [List.getElem?_append_right (by simpa using hi), List.getElem?_replicate] at q
        split at q <;> cases q
    rw [List.getElem?_append_left (by simpa using hi), List.getElem?_map] at q
    cases z : ds[i]? with
    | none => rw [z] at q; cases q
    | some d' =>
      rw [z] at q
      cases q
      obtain ⟨v, hv, ha⟩ := h.get z
      refine ⟨v, ?_, ha⟩
      unfold L2.start
      rw [List.getElem?_append_left (by simpa [e] using hi), List.getElem?_map, hv]; rfl

/-- THE RULE for a def -/
theorem fnok_mk {x qual : Str} {params : Arguments} {body : List Stmt} {scope : Scope} {dvs : List V} {kws : List (Str × V)} {f : Addr} {fd : FuncData} {ps : List Str} {n : Nat} {W : Spec} (Fu : FunD K x qual params body scope dvs kws f fd)
    (S : FnScope N ps scope) (hc : chk scope N Gs Vi = true) (hn : ps.length = n)
    (hb : ∀ (X : Cx) (F : Fr) (want : Sto) (ds : List D) (R : D → Sto → Prop), Cg P w K mg base N Gs Vi Vi k X → X.env.scope = scope → W want ds R → ds.length = n → F.ps = wr want →
      SL X F body (ds.map some ++ List.replicate (N.length - ds.length) none) want (fun _ st'' => Ret R .non st'') (Ret R)) : FnOk P w K mg base CX0 (k + 1) f fd ps (spW K n W) := by
  refine Fu.ok S (fun vs H Q E h => ?_) fun cdv A outer s H vs Q E hr h => ?_
  · obtain ⟨want, ds, R, h1, h2, h3, _⟩ := h
    rw [h3.length, h2, hn]
  · obtain ⟨want, ds, R, h1, h2, h3, h4, h5, h6⟩ := h
    have q := hb ((cxOf CX0 P w K mg base N qual scope f cdv A outer s H E).nox) ⟨wr want, H⟩ want ds R ⟨rfl, rfl, rfl, rfl, rfl, rfl, rfl, hr, S.nd, fun i y hi hN => ?_, fun i y hi hN => ?_, fun j y hj => ?_, S.kind, PassesOwn.never⟩ rfl h1 h2 rfl
    · have hl : ds.length ≤ N.length := by
        have := congrArg List.length S.pre
        rw [List.length_take] at this
        omega
      refine ⟨_, q.nox, ⟨fun b o _ e => e, .refl H, h4, h5, fun e he hw => .inl ?_, fun b o e => ⟨o, e⟩⟩, startAt h3 hl, fun en' st' σ' H' ⟨st1, sb, aw, r⟩ a b _ => ?_, fun d st' v H' ⟨st1, sb, aw, r⟩ a b => ?_⟩
      · obtain ⟨p, b, o⟩ := e
        have hw : b = true := hw
        subst hw
        exact mem_wr.mpr ⟨o, he⟩
      · exact h6 .non st1 .non H' r aw (a.sub sb) (at_non.mpr rfl)
      · exact h6 d st1 v H' r aw (a.sub sb) b
    · obtain ⟨z1, z2, z3⟩ := chk_vis hc hi hN
      refine ⟨?_, z2, z3⟩
      rcases z1 with z | z
      · exact .inl z
      · exact .inr (.inl z)
    · obtain ⟨z1, z2, z3⟩ := chk_vis hc hi hN
      exact ⟨z1, .inl rfl⟩
    · exact chk_gl hc hj

/-! ### what a call takes of the store -/
inductive OutA : Sto → Addr → Bool → SO → Sto → Prop
  | here {p w o st} : OutA (⟨p, w, o⟩ :: st) p w o st
  | there {e st p w o st'} : OutA st p w o st' → OutA (e :: st) p w o (e :: st')
inductive Tk : Sto → Sto → Sto → Prop
  | nil (st : Sto) : Tk st [] st
  | rd {st p w o st1 want rest} : OutA st p w o st1 → Tk st1 want rest → Tk st (⟨p, false, o⟩ :: want) (⟨p, w, o⟩ :: rest)
  | wr {st p o st1 want rest} : OutA st p true o st1 → Tk st1 want rest → Tk st (⟨p, true, o⟩ :: want) rest
theorem OutA.perm {st st' : Sto} {p : Addr} {w : Bool} {o : SO} (h : OutA st p w o st') : st.Perm (⟨p, w, o⟩ :: st') := by
  induction h with
  | here => exact .refl _
  | there _ ih => exact (List.Perm.cons _ ih).trans (List.Perm.swap _ _ _)
theorem Tk.perm {st want rest : Sto} (h : Tk st want rest) : ∃ rd : Sto, st.Perm (want.filter (·.w) ++ rest) ∧ (∃ r, (st.map Ent.p).Perm (want.map Ent.p ++ r)) ∧ ∀ e ∈ want, ∃ b, ⟨e.p, b, e.o⟩ ∈ st ∧ (e.w = true → b = true) := by
  induction h with
  | nil => exact ⟨[], .refl _, ⟨_, .refl _⟩, (fun e he => by cases he)⟩
  | @rd st p w o st1 want rest h t ih =>
    obtain ⟨_, i1, ⟨r, i2⟩, i3⟩ := ih
    have hp := h.perm
    refine ⟨[], ?_, ⟨r, ?_⟩, fun e he => ?_⟩
    · rw [List.filter_cons_of_neg (by simp)]
      exact hp.trans ((List.Perm.cons _ i1).trans List.perm_middle.symm)
    · exact (hp.map Ent.p).trans (List.Perm.cons _ i2)
    · rcases List.mem_cons.mp he with rfl | he
      · exact ⟨w, hp.symm.subset List.mem_cons_self, fun z => by cases z⟩
      · obtain ⟨b, hb, q⟩ := i3 e he
        exact ⟨b, hp.symm.subset (List.mem_cons_of_mem _ hb), q⟩
  | @wr st p o st1 want rest h t ih =>
    obtain ⟨_, i1, ⟨r, i2⟩, i3⟩ := ih
    have hp := h.perm
    refine ⟨[], ?_, ⟨r, ?_⟩, fun e he => ?_⟩
    · rw [List.filter_cons_of_pos rfl]
      exact hp.trans (List.Perm.cons _ i1)
    · exact (hp.map Ent.p).trans (List.Perm.cons _ i2)
    · rcases List.mem_cons.mp he with rfl | he
      · exact ⟨true, hp.symm.subset List.mem_cons_self, fun _ => rfl⟩
      · obtain ⟨b, hb, q⟩ := i3 e he
        exact ⟨b, hp.symm.subset (List.mem_cons_of_mem _ hb), q⟩
/-- the store behind a call -/
theorem SOk.call {K : PySem.W.Frag} {F : Fr} {st want rest st' : Sto} {H H' : Hp} (s : SOk K F st H) (t : Tk st want rest) (aw : ∀ e ∈ st', e.w = true) (s' : SOk K ⟨wr want, H⟩ st' H') : SOk K F (st' ++ rest) H' ∧ TExt H H' := by
  obtain ⟨_, p1, ⟨r, p2⟩, p3⟩ := t.perm
  have nd1 : ((want.filter (·.w) ++ rest).map Ent.p).Nodup := ((p1.map Ent.p).nodup_iff).mp s.nd
  rw [List.map_append, List.nodup_append] at nd1
  obtain ⟨n1, n2, n3⟩ := nd1
  have inW : ∀ p, p ∈ wr want → ∃ o, ⟨p, true, o⟩ ∈ st := fun p hp => by
    obtain ⟨o, ho⟩ := mem_wr.mp hp
    obtain ⟨b, hb, q⟩ := p3 _ ho
    rw [q rfl] at hb
    exact ⟨o, hb⟩
  have outW : ∀ e ∈ rest, e.p ∉ wr want := fun e he hp => by
    unfold wr at hp
    exact n3 _ hp _ (List.mem_map.mpr ⟨e, he, rfl⟩) rfl
  have inSt : ∀ e ∈ rest, e ∈ st := fun e he => p1.symm.subset (List.mem_append_right _ he)
  refine ⟨⟨fun b o hb e => ?_, s.txt.trans s'.txt, fun e he => ?_, ?_, fun e he hw => ?_, fun b o e => ?_⟩, s'.txt⟩
  · have q := s.ext b o hb e
    refine s'.ext b o (fun z => ?_) q
    obtain ⟨o2, h2⟩ := inW b z
    rcases s.own _ h2 rfl with z | z
    · exact hb z
    · have z : F.H0 b = none := z
      rw [z] at e; cases e
  · rcases List.mem_append.mp he with he | he
    · exact s'.objs e he
    · exact (s.objs e (inSt e he)).keep (fun u q => s'.ext _ _ (outW e he) q) s'.txt
  · rw [List.map_append, List.nodup_append]
    refine ⟨s'.nd, n2, fun a ha b hb e => ?_⟩
    obtain ⟨e1, h1, rfl⟩ := List.mem_map.mp ha
    obtain ⟨e2, h2, rfl⟩ := List.mem_map.mp hb
    rcases s'.own e1 h1 (aw e1 h1) with z | z
    · exact outW e2 h2 (e ▸ z)
    · obtain ⟨u, hu⟩ := (s.objs e2 (inSt e2 h2)).live
      have z : H e1.p = none := z
      rw [e, hu] at z; cases z
  · rcases List.mem_append.mp he with he | he
    · rcases s'.own e he hw with z | z
      · obtain ⟨o2, h2⟩ := inW e.p z
        exact s.own ⟨e.p, true, o2⟩ h2 rfl
      · exact .inr (s.free z)
    · exact s.own e (inSt e he) hw
  · obtain ⟨u, hu⟩ := s.live b o e
    exact s'.live b u hu
/-- THE RULE for a call -/
theorem ee_call (c : Cg P w K mg base N Gs Vi M k X) {x : Str} {j n i : Nat} {dds : List D} {W : Spec} (f : Fn P w K mg base x j n dds W) {e : Expr} {es : List Expr} {p pos : Pos} {Q : D → Sto → Prop} (hj : j ≤ k) (hg : Gs[i]? = some x)
    (q : EA X F en (e :: es) st fun ds st1 => ∃ want rest R, Tk st1 want rest ∧ W want (ds ++ dds) R ∧ (ds ++ dds).length = n ∧ ∀ d st', R d st' → Q d (st' ++ rest))
    (he : starEach (e :: es) X.env = (false, eval e X.env) :: starEach es X.env := by rfl) (hpl : (backTo pos (starEach es X.env)).any (·.1) = false := by rfl) : EE X F en (.Call (.Name x p) (e :: es) [] pos) st Q := by
  obtain ⟨fa, fd, ps, dvs, dvl, hn, hm, hk, hb, hd, hda, G⟩ := f.ex
  obtain ⟨g1, g2, g3⟩ := c.gl i x hg
  have hr := c.room
  obtain rfl := c.eprog
  obtain rfl := c.ew
  obtain rfl := c.eK
  obtain rfl := c.emg
  obtain rfl := c.ebase
  refine .intro fun σ H kk s b h => ⟨_, pe_call (E := E0) G (hr.mono hj) g1 hm hk hb hd pass0 pa_any g2 he hpl, q.use s b fun ds st1 vs H1 ⟨want, rest, R, tk, hW, hl, q1⟩ a1 t1 at1 => ?_⟩
  obtain ⟨_, p1, ⟨r, p2⟩, p3⟩ := tk.perm
  refine ⟨want, ds ++ dds, R, hW, hl, at1.append (hda H1), fun e he => ?_, ?_, fun d st' v H' hR aw s' ha => ?_⟩
  · obtain ⟨b, hb, q⟩ := p3 e he
    have z := a1.objs _ hb
    obtain ⟨ep, ew, eo⟩ := e
    cases ew with
    | true => rw [q rfl] at z; exact z
    | false => exact z.read
  · have nd := (p2.nodup_iff).mp a1.nd
    rw [List.nodup_append] at nd
    exact nd.1
  · obtain ⟨z1, z2⟩ := a1.call tk aw s'
    exact h d _ v H' (q1 d st' hR) z1 (t1.trans z2) ha

/-! ### subscripts, slices -/
theorem atI_ats {K : PySem.W.Frag} {H : Hp} {vs : List V} {ds : List D} {i : Int} {d : D} (h : Ats K H vs ds) (e : atI ds i = some d) : ∃ v, atI vs i = some v ∧ At K H v d := by
  unfold atI at e ⊢
  rw [h.length]
  cases q : ixN ds.length i with
  | none => rw [q] at e; cases e
  | some j =>
    rw [q] at e
    obtain ⟨v, hv, ha⟩ := h.get (show ds[j]? = some d from e)
    exact ⟨v, hv, ha⟩
/-- t[i] of a tuple -/
theorem ee_ixT {a b : Expr} {pos : Pos} {Q : D → Sto → Prop} (q : EE X F en a st fun d1 st1 => EE X F en b st1 fun d2 st2 => ∃ ds i d, d1 = .tup ds ∧ d2 = .int i ∧ atI ds i = some d ∧ Q d st2) (hs : PlainIx b := by exact fun _ _ => rfl) : EE X F en (.Subscript a b pos) st Q :=
  .intro fun σ H k s e h => ⟨_, pe_ix ix_tup pe_any pe_any hs, q.use s e fun d1 st1 v1 H1 q1 a1 t1 at1 => EE.use q1 a1 (e.mono t1) fun d2 st2 v2 H2 ⟨ds, i, d, e1, e2, ei, q2⟩ a2 t2 at2 => by
    subst e1; subst e2
    obtain ⟨p, xs, rfl, h1, h2⟩ := at_tup.mp (at1.mono t2)
    obtain ⟨v, hv, ha⟩ := atI_ats h2 ei
    exact ⟨p, xs, i, v, rfl, at_int.mp at2, h1, hv, h _ _ _ _ q2 a2 (t1.trans t2) ha⟩⟩
/-- l[i] of a list of the store -/
theorem ee_ixL {a b : Expr} {pos : Pos} {Q : D → Sto → Prop} (q : EE X F en a st fun d1 st1 => EE X F en b st1 fun d2 st2 => ∃ p ds i d, d1 = .ref p ∧ Has st2 p (.lst ds) ∧ d2 = .int i ∧ atI ds i = some d ∧ Q d st2) (hs : PlainIx b := by exact fun _ _ => rfl) : EE X F en (.Subscript a b pos) st Q :=
  .intro fun σ H k s e h => ⟨_, pe_ix ix_list pe_any pe_any hs, q.use s e fun d1 st1 v1 H1 q1 a1 t1 at1 => EE.use q1 a1 (e.mono t1) fun d2 st2 v2 H2 ⟨p, ds, i, d, e1, hh, e2, ei, q2⟩ a2 t2 at2 => by
    subst e1; subst e2
    obtain ⟨xs, h1, h2⟩ := a2.has hh
    obtain ⟨v, hv, ha⟩ := atI_ats h2 ei
    exact ⟨p, xs, i, v, at_ref.mp at1, at_int.mp at2, .inl h1, hv, h _ _ _ _ q2 a2 (t1.trans t2) ha⟩⟩
/-- s[i] of the script -/
theorem ee_ixS {a b : Expr} {pos : Pos} {Q : D → Sto → Prop} (q : EE X F en a st fun d1 st1 => EE X F en b st1 fun d2 st2 => ∃ ns i n, d1 = .scr ns ∧ d2 = .int i ∧ atI ns i = some n ∧ Q (.int n) st2) (hs : PlainIx b := by exact fun _ _ => rfl) : EE X F en (.Subscript a b pos) st Q :=
  .intro fun σ H k s e h => ⟨_, pe_ix ix_list pe_any pe_any hs, q.use s e fun d1 st1 v1 H1 q1 a1 t1 at1 => EE.use q1 a1 (e.mono t1) fun d2 st2 v2 H2 ⟨ns, i, n, e1, e2, ei, q2⟩ a2 t2 at2 => by
    subst e1; subst e2
    have at1 := at1.mono t2
    unfold At at at1
    obtain ⟨p, rfl, hp⟩ := at1
    refine ⟨p, ns.map V.int, i, .int n, rfl, at_int.mp at2, ?_, ?_, h _ _ _ _ q2 a2 (t1.trans t2) (at_int.mpr rfl)⟩
    · rcases hp with ⟨o, hp⟩ | hp
      · exact .inl (.inr ⟨o, hp⟩)
      · rcases hp with (hp | ⟨o, hp⟩) | hp
        · cases hp
        · cases hp
        · exact .inr hp
    · unfold atI at ei ⊢
      rw [List.length_map]
      cases z : ixN ns.length i with
      | none => rw [z] at ei; cases ei
      | some j =>
        rw [z] at ei
        show (ns.map V.int)[j]? = _
        rw [List.getElem?_map, show ns[j]? = some n from ei]; rfl⟩

/-! ### len, and other built-ins over one data -/
theorem ee_callB (c : Cg P w K mg base N Gs Vi M k X) {x : Str} {i : Nat} {id : String} {e : Expr} {es : List Expr} {p pos : Pos} {r : List V → Hp → VK → Prop} {Q : D → Sto → Prop} {Rr : List D → Sto → Prop} (hc : CallR X (.builtin id) r) (hg : Gs[i]? = some x) (hm : mg x = none) (hv : bootBuiltins x = some (.builtin id))
    (hr : ∀ ds st' vs H k, Rr ds st' → SOk X.K F st' H → Ats X.K H vs ds → (∀ d st'' v H', Q d st'' → SOk X.K F st'' H' → TExt H H' → At X.K H' v d → k v H') → r vs H k)
    (q : EA X F en (e :: es) st Rr) (he : starEach (e :: es) X.env = (false, eval e X.env) :: starEach es X.env := by rfl) (hpl : (backTo pos (starEach es X.env)).any (·.1) = false := by rfl) : EE X F en (.Call (.Name x p) (e :: es) [] pos) st Q := by
  obtain ⟨g1, g2, g3⟩ := c.gl i x hg
  exact .intro fun σ H kk s b h => ⟨_, pe_callB hc g1 (by rw [c.emg]; exact hm) hv pa_any g3 g2 he hpl, q.use s b fun ds st1 vs H1 q1 a1 t1 at1 => hr ds st1 vs H1 kk q1 a1 at1 fun d st'' v H' q a t at' => h d st'' v H' q a (t1.trans t) at'⟩
theorem ee_callTy (c : Cg P w K mg base N Gs Vi M k X) {x : Str} {i : Nat} {id : String} {e : Expr} {es : List Expr} {p pos : Pos} {r : List V → Hp → VK → Prop} {Q : D → Sto → Prop} {Rr : List D → Sto → Prop} (hc : CallR X (.type id) r) (hg : Gs[i]? = some x) (hm : mg x = none) (hv : bootBuiltins x = some (.type id))
    (hr : ∀ ds st' vs H k, Rr ds st' → SOk X.K F st' H → Ats X.K H vs ds → (∀ d st'' v H', Q d st'' → SOk X.K F st'' H' → TExt H H' → At X.K H' v d → k v H') → r vs H k)
    (q : EA X F en (e :: es) st Rr) (he : starEach (e :: es) X.env = (false, eval e X.env) :: starEach es X.env := by rfl) (hpl : (backTo pos (starEach es X.env)).any (·.1) = false := by rfl) : EE X F en (.Call (.Name x p) (e :: es) [] pos) st Q := by
  obtain ⟨g1, g2, g3⟩ := c.gl i x hg
  exact .intro fun σ H kk s b h => ⟨_, pe_callTy hc g1 (by rw [c.emg]; exact hm) hv pa_any g3 g2 he hpl, q.use s b fun ds st1 vs H1 q1 a1 t1 at1 => hr ds st1 vs H1 kk q1 a1 at1 fun d st'' v H' q a t at' => h d st'' v H' q a (t1.trans t) at'⟩
theorem ee_abs (c : Cg P w K mg base N Gs Vi M k X) {i : Nat} {e : Expr} {p pos : Pos} {Q : D → Sto → Prop} (hg : Gs[i]? = some "abs") (hm : mg "abs" = none) (q : EE X F en e st fun d st1 => ∃ n, d = .int n ∧ Q (.int (n.natAbs : Int)) st1)
    (he : starEach [e] X.env = (false, eval e X.env) :: starEach [] X.env := by rfl) : EE X F en (.Call (.Name "abs" p) [e] [] pos) st Q :=
  ee_callB c call_abs hg hm (by decide +kernel) (Rr := fun ds st' => ∃ n, ds = [.int n] ∧ Q (.int (n.natAbs : Int)) st') (fun ds st' vs H k ⟨n, e1, q1⟩ s a h => by
    subst e1
    obtain ⟨v, r, rfl, h1, h2⟩ := ats_cons.mp a
    obtain rfl := ats_nil.mp h2
    refine ⟨n, by rw [at_int.mp h1], ?_⟩
    have z : (if n < 0 then -n else n) = (n.natAbs : Int) := by split <;> omega
    rw [z]
    exact h _ _ _ _ q1 s (.refl H) (at_int.mpr rfl))
  (ea_cons (by
    refine EE.intro fun σ H kk s b h => q.use s b fun d st1 v H1 ⟨n, e1, q1⟩ a1 t1 at1 => h d st1 v H1 ?_ a1 t1 at1
    subst e1
    exact ea_nil ⟨n, rfl, q1⟩) he) he rfl

/-! ### a, b = e1, e2 -/
def starB : Expr → Bool
  | .Starred .. => true
  | _ => false
theorem sw2 {env : PySem.Env} {x y : Str} {px py pt : Pos} {kt k2 : Nat} {pt2 : Pos} {e1 e2 : Expr} (hb : env.scope.kind = .function) (hx : env.scope.names.lookup x = some .local) (hy : env.scope.names.lookup y = some .local)
    (hl : (py.line == px.line) = true) (hne : (y == x) = false) (h1 : starB e1 = false) (h2 : starB e2 = false) (hf : (foldedForSure 8 e1 && foldedForSure 8 e2) = false) (hc : (constantsAlone 8 e1 && constantsAlone 8 e2) = false) :
    swappedStores [.Tuple [.Name x px, .Name y py] kt pt] (.Tuple [e1, e2] k2 pt2) env = pure (some [x, y]) := by
  have hbk : env.blockKind = .function := by unfold PySem.Env.blockKind; rw [hb]; rfl
  have kx : env.kindOf x = some .local := hx
  have ky : env.kindOf y = some .local := hy
  have hd : [x, y].eraseDups = [x, y] := by
    simp [List.eraseDups_cons, hne]
  unfold swappedStores
  simp only [hbk, Expr.pos, List.head?_cons, Option.map_some, Option.getD_some, List.filterMap_cons, List.filterMap_nil, kx, ky, hl, beq_self_eq_true, Bool.and_self, Bool.true_and, if_true, List.any_cons, List.any_nil, List.all_cons, List.all_nil, Bool.and_true, hf, hc, hd, List.length_cons, List.length_nil]
  refine (if_neg (by decide)).trans ((if_neg ?_).trans rfl)
  rw [Bool.or_eq_true, Bool.or_eq_true]
  rintro (h | h | h)
  · cases e1 <;> first | exact absurd (show false = true from h) Bool.false_ne_true | exact absurd (show true = false from h1) (by decide)
  · cases e2 <;> first | exact absurd (show false = true from h) Bool.false_ne_true | exact absurd (show true = false from h2) (by decide)
  · cases h
/-- some target that is no name -/
def nameB : Expr → Bool
  | .Name .. => true
  | _ => false
theorem swN {env : PySem.Env} {ts vs : List Expr} {kt k2 : Nat} {pt pt2 : Pos} (h : (ts.all nameB) = false) : swappedStores [.Tuple ts kt pt] (.Tuple vs k2 pt2) env = pure none := by
  have hlen : ∀ (line : Nat) (l : List Expr), (l.filterMap fun | .Name id pos => if env.kindOf id == some .local && pos.line == line then some id else none | _ => none).length ≤ (l.filter nameB).length := fun line l => by
    induction l with
    | nil => simp
    | cons e l ih =>
      rw [List.filterMap_cons]
      cases e <;> simp only [nameB, List.filter_cons, Bool.false_eq_true, if_false, if_true] <;> first | exact ih | skip
      split
      · exact Nat.le_succ_of_le ih
      · simp only [List.length_cons]; omega
  have hlt : (ts.filter nameB).length < ts.length := by
    have q : (ts.filter nameB).length ≤ ts.length := List.length_filter_le ..
    rcases Nat.lt_or_eq_of_le q with q | q
    · exact q
    · have := List.filter_eq_self.mp (List.Sublist.eq_of_length List.filter_sublist q)
      rw [List.all_eq_true.mpr this] at h; cases h
  unfold swappedStores
  simp only []
  split
  · rfl
  · split
    · rfl
    · have z := hlen ((ts.head?.map (·.pos.line)).getD 0) ts
      rw [if_pos]
      simp only [Bool.or_eq_true, bne_iff_ne, ne_eq]
      left
      exact fun e => Nat.ne_of_lt (Nat.lt_of_le_of_lt z hlt) e
/-- all constants -/
theorem swF {env : PySem.Env} {ts vs : List Expr} {kt k2 : Nat} {pt pt2 : Pos} (h : (vs.all (foldedForSure 8)) = true) : swappedStores [.Tuple ts kt pt] (.Tuple vs k2 pt2) env = pure none := by
  unfold swappedStores
  simp only [h, if_true]
  split
  · rfl
  · split
    · rfl
    · split
      · rfl
      · rfl
/-- a name that is no local -/
theorem swC {env : PySem.Env} {ts vs : List Expr} {kt k2 : Nat} {pt pt2 : Pos} {y : Str} {py : Pos} (hm : .Name y py ∈ ts) (hy : env.scope.names.lookup y ≠ some .local) : swappedStores [.Tuple ts kt pt] (.Tuple vs k2 pt2) env = pure none := by
  have ky : (env.kindOf y == some .local) = false := by
    show (env.scope.names.lookup y == some .local) = false
    cases h : env.scope.names.lookup y with
    | none => rfl
    | some z => cases z <;> first | rfl | exact absurd h hy
  have hlen : ∀ (line : Nat) (l : List Expr), (l.filterMap fun | .Name id pos => if env.kindOf id == some .local && pos.line == line then some id else none | _ => none).length ≤ l.length := fun line l => List.length_filterMap_le ..
  have hlt : ∀ (line : Nat) (l : List Expr), .Name y py ∈ l → (l.filterMap fun | .Name id pos => if env.kindOf id == some .local && pos.line == line then some id else none | _ => none).length < l.length := fun line l => by
    induction l with
    | nil => intro h; cases h
    | cons e l ih =>
      intro h
      rcases List.mem_cons.mp h with rfl | h
      · rw [List.filterMap_cons]
        simp only [ky, Bool.false_and, Bool.false_eq_true, if_false, List.length_cons]
        exact Nat.lt_succ_of_le (hlen line l)
      · have z := ih h
        rw [List.filterMap_cons]
        split
        · simp only [List.length_cons]; omega
        · simp only [List.length_cons]; omega
  unfold swappedStores
  simp only []
  split
  · rfl
  · split
    · rfl
    · have z := hlt ((ts.head?.map (·.pos.line)).getD 0) ts hm
      rw [if_pos]
      simp only [Bool.or_eq_true, bne_iff_ne, ne_eq]
      left
      exact fun e => Nat.ne_of_lt z e
theorem ss_par2 (c : Cg P w K mg base N Gs Vi M k X) {Nn : Env → Sto → Prop} {R : D → Sto → Prop} {i j : Nat} {x y : Str} {e1 e2 : Expr} {px py pt pos : Pos} {kt k2 : Nat} {pt2 : Pos} (hi : N[i]? = some x) (hj : N[j]? = some y) (hM : M.contains i = true) (hM' : M.contains j = true)
    (hx : X.env.scope.names.lookup x = some .local) (hy : X.env.scope.names.lookup y = some .local)
    (q : EA X F en [e1, e2] st fun ds st1 => ∃ d1 d2 en1 en2, ds = [d1, d2] ∧ ESet en i d1 en1 ∧ ESet en1 j d2 en2 ∧ Nn en2 st1)
    (hij : i ≠ j := by decide) (hl : (py.line == px.line) = true := by rfl) (hne : (y == x) = false := by decide) (h1 : starB e1 = false := by rfl) (h2 : starB e2 = false := by rfl) (hf : (foldedForSure 8 e1 && foldedForSure 8 e2) = false := by rfl) (hc : (constantsAlone 8 e1 && constantsAlone 8 e2) = false := by rfl)
    (hs : swapsWithSole [.Tuple [.Name x px, .Name y py] kt pt] (.Tuple [e1, e2] k2 pt2) pos.line X.env = pure false := by rfl) : SS X F (.Assign [.Tuple [.Name x px, .Name y py] kt pt] (.Tuple [e1, e2] k2 pt2) pos) en st Nn R :=
  ss_par c hi hj hij hM hM' hx hy q (sw2 c.kind hx hy hl hne h1 h2 hf hc) hs

/-! ### while -/
variable {Nn : Env → Sto → Prop} {R : D → Sto → Prop}
theorem ss_while (c : Cg P w K mg base N Gs Vi M k X) {t : Expr} {body : List Stmt} {pos : Pos} (W : Nat → Env → Sto → Prop) (h0 : ∃ m, W m en st)
    (hs : ∀ m en1 st1, W m en1 st1 → ET X F en1 t st1 fun b st2 => (b = true → SL X F body en1 st2 (fun en' st' => ∃ m', m' < m ∧ W m' en' st') R) ∧ (b = false → Nn en1 st2)) : SS X F (.While t body [] pos) en st Nn R :=
  .intro fun σ H D a b n r => by
    refine ⟨_, ps_while c.own pt_any pss_any, fun m σ H' => ∃ en1 st1, W m en1 st1 ∧ SOk X.K F st1 H' ∧ EnvAt X.K H' σ en1 ∧ TExt H H', ?_, ?_⟩
    · obtain ⟨m, hm⟩ := h0
      exact ⟨m, en, st, hm, a, b, .refl H⟩
    · rintro m σ1 H1 ⟨en1, st1, w1, a1, b1, t1⟩
      refine (hs m en1 st1 w1).use a1 b1 fun t st2 H2 q2 a2 t2 => ?_
      cases t with
      | true =>
        rw [if_pos rfl]
        refine ⟨fun σ' H' => ∃ m', m' < m ∧ ∃ en1 st1, W m' en1 st1 ∧ SOk X.K F st1 H' ∧ EnvAt X.K H' σ' en1 ∧ TExt H H', fun σ' H' h => h, ?_⟩
        exact (q2.1 rfl).use a2 (b1.mono t2) (fun en' st' σ' H' ⟨m', l, w'⟩ a' b' t' => ⟨m', l, en', st', w', a', b', (t1.trans t2).trans t'⟩) r
      | false =>
        rw [if_neg Bool.false_ne_true]
        exact n en1 st2 σ1 H2 (q2.2 rfl) a2 (b1.mono t2) (t1.trans t2)

/-! ### for -/
/-- over a tuple -/
theorem ss_forT (c : Cg P w K mg base N Gs Vi M k X) {vs : List Nat} {tg it : Expr} {body : List Stmt} {pos : Pos}
    (q : EE X F en it st fun d st1 => ∃ (ds : List D) (Pv : Nat → Env → Sto → Prop), d = .tup ds ∧ Pv 0 en st1 ∧
      (∀ i d en2 st2, ds[i]? = some d → Pv i en2 st2 → EG X F vs tg d en2 st2 fun en3 st3 => SL X F body en3 st3 (fun en' st' => Pv (i + 1) en' st') R) ∧ ∀ en2 st2, Pv ds.length en2 st2 → Nn en2 st2)
    (hs : ∀ x, foldedSetIterable it X.env x = pure x := by intro _; rfl) : SS X F (.For tg it body [] pos) en st Nn R :=
  .intro fun σ H D a b n r => by
    refine ⟨_, ps_for c.own c.calm (pi_tup pe_any) pg_any pss_any hs, q.use a b fun d st1 v H1 ⟨ds, Pv, e1, p0, pt, pe⟩ a1 t1 at1 => ?_⟩
    subst e1
    obtain ⟨p, xs, rfl, h1, h2⟩ := at_tup.mp at1
    refine ⟨p, rfl, ⟨xs, h1⟩, ?_⟩
    refine for_tup (K := X.K) (a := p) (xs := xs) (fun i σ H' => ∃ en2 st2, Pv i en2 st2 ∧ SOk X.K F st2 H' ∧ EnvAt X.K H' σ en2 ∧ TExt H1 H') ⟨en, st1, p0, a1, b.mono t1, .refl H1⟩ (fun i σ H _ ⟨_, _, _, _, _, z⟩ => z.sqt h1) ?_ ?_
    · rintro i x σ2 H2 hx ⟨en2, st2, p2, a2, b2, t2⟩
      obtain ⟨d, hd, ad⟩ := (h2.mono t2).get' hx
      refine EG.use (pt i d en2 st2 hd p2) ad a2 b2 fun en3 st3 σ3 H3 q3 a3 b3 t3 _ => ?_
      exact SL.use q3 a3 b3 (fun en' st' σ' H' p' a' b' t' => ⟨en', st', p', a', b', (t2.trans t3).trans t'⟩) r
    · rintro σ2 H2 ⟨en2, st2, p2, a2, b2, t2⟩
      rw [h2.length] at p2
      exact n en2 st2 σ2 H2 (pe en2 st2 p2) a2 b2 (t1.trans t2)
/-- over a list of the store -/
theorem ss_forL (c : Cg P w K mg base N Gs Vi M k X) {vs : List Nat} {tg it : Expr} {body : List Stmt} {pos : Pos}
    (q : EE X F en it st fun d st1 => ∃ (p : Addr) (ds : List D) (Pv : Nat → Env → Sto → Prop), d = .ref p ∧ Has st1 p (.lst ds) ∧ Pv 0 en st1 ∧ (∀ i en2 st2, i ≤ ds.length → Pv i en2 st2 → Has st2 p (.lst ds)) ∧
      (∀ i d en2 st2, ds[i]? = some d → Pv i en2 st2 → EG X F vs tg d en2 st2 fun en3 st3 => SL X F body en3 st3 (fun en' st' => Pv (i + 1) en' st') R) ∧ ∀ en2 st2, Pv ds.length en2 st2 → Nn en2 st2)
    (hs : ∀ x, foldedSetIterable it X.env x = pure x := by intro _; rfl) : SS X F (.For tg it body [] pos) en st Nn R :=
  .intro fun σ H D a b n r => by
    refine ⟨_, ps_for c.own c.calm (pi_list pe_any) pg_any pss_any hs, q.use a b fun d st1 v H1 ⟨p, ds, Pv, e1, hh, p0, hk, pt, pe⟩ a1 t1 at1 => ?_⟩
    subst e1
    obtain rfl := at_ref.mp at1
    obtain ⟨xs, h1, h2⟩ := a1.has hh
    refine ⟨p, rfl, ⟨xs, .inl h1⟩, ?_⟩
    refine ⟨fun i m σ H' => m = ds.length - i ∧ i ≤ ds.length ∧ ∃ en2 st2, Pv i en2 st2 ∧ SOk X.K F st2 H' ∧ EnvAt X.K H' σ en2 ∧ TExt H1 H', ⟨ds.length, by simp, Nat.zero_le _, en, st1, p0, a1, b.mono t1, .refl H1⟩, ?_⟩
    rintro i m σ2 H2 ⟨rfl, hi, en2, st2, p2, a2, b2, t2⟩
    obtain ⟨ys, g1, g2⟩ := a2.has (hk i en2 st2 hi p2)
    by_cases hlt : i < ds.length
    · have hy : i < ys.length := by rw [g2.length]; exact hlt
      refine .inr ⟨⟨ys, ys[i], .inl g1, by simp [hy]⟩, fun σ' H' => ∃ en2 st2, Pv (i + 1) en2 st2 ∧ SOk X.K F st2 H' ∧ EnvAt X.K H' σ' en2 ∧ TExt H1 H', fun σ' H' p' => ⟨ds.length - (i + 1), by omega, rfl, hlt, p'⟩, fun x H' y => ?_⟩
      obtain ⟨e, y⟩ := y
      subst e
      obtain ⟨d, hd, ad⟩ := g2.get' (y ys (.inl g1))
      refine EG.use (pt i d en2 st2 hd p2) ad a2 b2 fun en3 st3 σ3 H3 q3 a3 b3 t3 _ => ?_
      exact SL.use q3 a3 b3 (fun en' st' σ' H' p' a' b' t' => ⟨en', st', p', a', b', (t2.trans t3).trans t'⟩) r
    · have e : i = ds.length := by omega
      subst e
      exact .inl ⟨⟨ys, .inl g1, by rw [g2.length]; exact Nat.le_refl _⟩, n en2 st2 σ2 H2 (pe en2 st2 p2) a2 b2 (t1.trans t2)⟩
/-- over range(n) -/
theorem ss_forR (c : Cg P w K mg base N Gs Vi M k X) {vs : List Nat} {j : Nat} {tg e : Expr} {body : List Stmt} {p pos pos' : Pos} (hg : Gs[j]? = some "range") (hm : mg "range" = none)
    (q : EE X F en e st fun d st1 => ∃ (n : Int) (Pv : Nat → Env → Sto → Prop), d = .int n ∧ -(2 ^ 62) ≤ n ∧ n < 2 ^ 62 ∧ Pv 0 en st1 ∧
      (∀ (i : Nat) en2 st2, i < n.toNat → Pv i en2 st2 → EG X F vs tg (.int i) en2 st2 fun en3 st3 => SL X F body en3 st3 (fun en' st' => Pv (i + 1) en' st') R) ∧ ∀ en2 st2, Pv n.toNat en2 st2 → Nn en2 st2)
    (hs : ∀ x, foldedSetIterable (.Call (.Name "range" p) [e] [] pos') X.env x = pure x := by intro _; rfl) (hs1 : starEach [e] X.env = [(false, eval e X.env)] := by rfl) : SS X F (.For tg (.Call (.Name "range" p) [e] [] pos') body [] pos) en st Nn R :=
  .intro fun σ H D a b n r => by
    obtain ⟨g1, g2, g3⟩ := c.gl j _ hg
    refine ⟨_, ps_for c.own c.calm (pi_range1 g1 (by rw [c.emg]; exact hm) (pa_cons pe_any pa_nil hs1) hs1) pg_any pss_any hs, q.use a b fun d st1 v H1 ⟨m, Pv, e1, lo, hi, p0, pt, pe⟩ a1 t1 at1 => ?_⟩
    subst e1
    refine ⟨m, by rw [at_int.mp at1], lo, hi, ?_⟩
    refine for_range (lo := 0) (n := m.toNat) (fun i σ H' => ∃ en2 st2, Pv i en2 st2 ∧ SOk X.K F st2 H' ∧ EnvAt X.K H' σ en2 ∧ TExt H1 H') ⟨en, st1, p0, a1, b.mono t1, .refl H1⟩ ?_ ?_
    · rintro i σ2 H2 hlt ⟨en2, st2, p2, a2, b2, t2⟩
      refine EG.use (pt i en2 st2 hlt p2) (at_int.mpr (by rw [Int.zero_add])) a2 b2 fun en3 st3 σ3 H3 q3 a3 b3 t3 _ => ?_
      exact SL.use q3 a3 b3 (fun en' st' σ' H' p' a' b' t' => ⟨en', st', p', a', b', (t2.trans t3).trans t'⟩) r
    · rintro σ2 H2 ⟨en2, st2, p2, a2, b2, t2⟩
      exact n en2 st2 σ2 H2 (pe en2 st2 p2) a2 b2 (t1.trans t2)
end G
end
section
set_option Elab.async false
set_option linter.all false
set_option maxRecDepth 100000
set_option maxHeartbeats 4000000
/-! G4: equality of data, tuples, lists, dicts, built-ins. -/
namespace G
open PySem L2
variable {X : Cx} {F : Fr} {en : Env} {st : Sto} {P : Program} {w : World} {K : PySem.W.Frag} {mg : Str → Option Value} {base : Heap} {N Gs : List Str} {Vi M : List Nat} {k : Nat}

/-! ### plain data: ints and tuples of such -/
mutual
def pl : Nat → D → Bool
  | _, .int _ => true
  | n + 1, .tup ds => pls n ds
  | _, _ => false
def pls : Nat → List D → Bool
  | _, [] => true
  | n, d :: ds => pl n d && pls n ds
end
mutual
def py : D → PyData
  | .int i => .int i
  | .tup ds => .tuple (pys ds)
  | _ => .none
def pys : List D → List PyData
  | [] => []
  | d :: ds => py d :: pys ds
end
theorem pl_int {n : Nat} {i : Int} : pl n (.int i) = true := by cases n <;> simp [pl]
theorem pl_tup {n : Nat} {ds : List D} : pl (n + 1) (.tup ds) = pls n ds := by simp [pl]
theorem pls_nil {n : Nat} : pls n [] = true := by simp [pls]
theorem pls_cons {n : Nat} {d : D} {ds : List D} : pls n (d :: ds) = (pl n d && pls n ds) := by simp [pls]
theorem pls_iff {n : Nat} : ∀ {ds : List D}, pls n ds = true ↔ ∀ d ∈ ds, pl n d = true
  | [] => by simp [pls]
  | d :: ds => by rw [pls_cons, Bool.and_eq_true, pls_iff (ds := ds)]; simp
theorem py_int {i : Int} : py (.int i) = .int i := by simp [py]
theorem py_tup {ds : List D} : py (.tup ds) = .tuple (pys ds) := by simp [py]
theorem pys_map : ∀ {ds : List D}, pys ds = ds.map py
  | [] => by simp [pys]
  | d :: ds => by rw [pys, pys_map]; rfl
theorem pl_shape {d : D} {n : Nat} (h : pl n d = true) : (∃ i, d = .int i) ∨ ∃ m ds, n = m + 1 ∧ d = .tup ds ∧ pls m ds = true := by
  cases d with
  | int i => exact .inl ⟨i, rfl⟩
  | tup ds =>
    cases n with
    | zero => simp [pl] at h
    | succ m => exact .inr ⟨m, ds, rfl, rfl, by simpa [pl] using h⟩
  | _ => cases n <;> simp [pl] at h
mutual
theorem pl_dp {K : PySem.W.Frag} {H : Hp} : ∀ (d : D) (n : Nat) (v : V), pl n d = true → At K H v d → Dp K H v (py d)
  | .int i, n, v, _, a => by rw [at_int.mp a, py_int]; exact .int i
  | .tup ds, n, v, h, a => by
    obtain ⟨p, xs, rfl, h1, h2⟩ := at_tup.mp a
    rw [py_tup]
    rcases pl_shape h with ⟨i, e⟩ | ⟨m, es, _, e, q⟩
    · cases e
    · cases e
      exact .tup h1 (pls_dp ds m xs q h2)
  | .non, n, v, h, _ => by cases n <;> simp [pl] at h
  | .bl _, n, v, h, _ => by cases n <;> simp [pl] at h
  | .str _, n, v, h, _ => by cases n <;> simp [pl] at h
  | .ref _, n, v, h, _ => by cases n <;> simp [pl] at h
  | .scr _, n, v, h, _ => by cases n <;> simp [pl] at h
  | .any, n, v, h, _ => by cases n <;> simp [pl] at h
theorem pls_dp {K : PySem.W.Frag} {H : Hp} : ∀ (ds : List D) (n : Nat) (vs : List V), pls n ds = true → Ats K H vs ds → DpAll K H vs (pys ds)
  | [], n, vs, _, a => by rw [ats_nil.mp a]; simp only [pys]; exact .nil
  | d :: ds, n, vs, h, a => by
    obtain ⟨v, r, rfl, h1, h2⟩ := ats_cons.mp a
    rw [pls_cons, Bool.and_eq_true] at h
    simp only [pys]
    exact .cons (pl_dp d n v h.1 h1) (pls_dp ds n r h.2 h2)
end
mutual
theorem pl_lay : ∀ (d : D) (n : Nat), pl n d = true → (py d).canLay0 = true ∧ (py d).depth ≤ n
  | .int i, n, _ => by rw [py_int]; simp [PyData.canLay0, PyData.depth]
  | .tup ds, n, h => by
    rw [py_tup]
    rcases pl_shape h with ⟨i, e⟩ | ⟨m, es, en, e, q⟩
    · cases e
    · cases e
      have := pls_lay ds m q
      simp only [PyData.canLay0, PyData.depth]
      exact ⟨this.1, by omega⟩
  | .non, n, h => by cases n <;> simp [pl] at h
  | .bl _, n, h => by cases n <;> simp [pl] at h
  | .str _, n, h => by cases n <;> simp [pl] at h
  | .ref _, n, h => by cases n <;> simp [pl] at h
  | .scr _, n, h => by cases n <;> simp [pl] at h
  | .any, n, h => by cases n <;> simp [pl] at h
theorem pls_lay : ∀ (ds : List D) (n : Nat), pls n ds = true → PyData.canLayAll0 (pys ds) = true ∧ PyData.depthAll (pys ds) ≤ n
  | [], n, _ => by simp [pys, PyData.canLayAll0, PyData.depthAll]
  | d :: ds, n, h => by
    rw [pls_cons, Bool.and_eq_true] at h
    have h1 := pl_lay d n h.1
    have h2 := pls_lay ds n h.2
    simp only [pys, PyData.canLayAll0, PyData.depthAll, Bool.and_eq_true]
    exact ⟨⟨h1.1, h2.1⟩, by omega⟩
end
theorem pl_shaped {d : D} {n : Nat} (h : pl n d = true) (hn : n ≤ 64) : SeqAt.shaped (py d) = true := by
  have q := pl_lay d n h
  show ((py d).canLay0 && decide ((py d).depth ≤ 64)) = true
  rw [Bool.and_eq_true]
  exact ⟨q.1, decide_eq_true (by omega)⟩
theorem pls_shapedL {ds : List D} {n : Nat} (h : pls n ds = true) (hn : n < 64) : SeqAt.shaped (.list (pys ds)) = true := by
  have q := pls_lay ds n h
  show (PyData.canLay0 (.list (pys ds)) && decide (PyData.depth (.list (pys ds)) ≤ 64)) = true
  rw [Bool.and_eq_true]
  refine ⟨by simp only [PyData.canLay0]; exact q.1, decide_eq_true ?_⟩
  simp only [PyData.depth]
  omega
theorem pls_shapedT {ds : List D} {n : Nat} (h : pls n ds = true) (hn : n < 64) : SeqAt.shaped (.tuple (pys ds)) = true := by
  have q := pls_lay ds n h
  show (PyData.canLay0 (.tuple (pys ds)) && decide (PyData.depth (.tuple (pys ds)) ≤ 64)) = true
  rw [Bool.and_eq_true]
  refine ⟨by simp only [PyData.canLay0]; exact q.1, decide_eq_true ?_⟩
  simp only [PyData.depth]
  omega
mutual
theorem eqv_iff : ∀ (d e : D) (n m : Nat), pl n d = true → pl m e = true → (PyData.eqv (py d) (py e) = true ↔ d = e)
  | .int i, e, n, m, _, h => by
    rcases pl_shape h with ⟨j, rfl⟩ | ⟨_, es, _, rfl, _⟩
    · rw [py_int, py_int]; simp [PyData.eqv]
    · rw [py_int, py_tup]; simp [PyData.eqv]
  | .tup ds, e, n, m, h0, h => by
    rcases pl_shape h0 with ⟨j, e0⟩ | ⟨n', ds', _, e0, q0⟩
    · cases e0
    · cases e0
      rcases pl_shape h with ⟨j, rfl⟩ | ⟨m', es, _, rfl, q⟩
      · rw [py_int, py_tup]; simp [PyData.eqv]
      · rw [py_tup, py_tup]
        simp only [PyData.eqv, D.tup.injEq]
        exact eqvs_iff ds es n' m' q0 q
  | .non, e, n, m, h, _ => by cases n <;> simp [pl] at h
  | .bl _, e, n, m, h, _ => by cases n <;> simp [pl] at h
  | .str _, e, n, m, h, _ => by cases n <;> simp [pl] at h
  | .ref _, e, n, m, h, _ => by cases n <;> simp [pl] at h
  | .scr _, e, n, m, h, _ => by cases n <;> simp [pl] at h
  | .any, e, n, m, h, _ => by cases n <;> simp [pl] at h
theorem eqvs_iff : ∀ (ds es : List D) (n m : Nat), pls n ds = true → pls m es = true → (PyData.eqvAll (pys ds) (pys es) = true ↔ ds = es)
  | [], [], n, m, _, _ => by simp [pys, PyData.eqvAll]
  | [], e :: es, n, m, _, _ => by simp [pys, PyData.eqvAll]
  | d :: ds, [], n, m, _, _ => by simp [pys, PyData.eqvAll]
  | d :: ds, e :: es, n, m, h, q => by
    rw [pls_cons, Bool.and_eq_true] at h q
    simp only [pys, PyData.eqvAll, Bool.and_eq_true, List.cons.injEq]
    rw [eqv_iff d e n m h.1 q.1, eqvs_iff ds es n m h.2 q.2]
end
theorem any_iff {d : D} {ds : List D} {n m : Nat} (h : pl n d = true) (q : pls m ds = true) : ((pys ds).any fun z => PyData.eqv z (py d)) = true ↔ d ∈ ds := by
  rw [pys_map, List.any_map, List.any_eq_true]
  constructor
  · rintro ⟨e, he, z⟩
    have := (eqv_iff e d m n (pls_iff.mp q e he) h).mp z
    rw [← this]; exact he
  · intro he
    exact ⟨d, he, (eqv_iff d d m n (pls_iff.mp q d he) h).mpr rfl⟩
theorem Two.iff {c : Prop} {b : Bool} {Q : Bool → Sto → Prop} {st : Sto} (e : b = true ↔ c) (h : Two c Q st) : Q b st := by
  cases b with
  | true => exact h.1 (e.mp rfl)
  | false => exact h.2 fun z => by cases e.mpr z
theorem Two.iffN {c : Prop} {b : Bool} {Q : Bool → Sto → Prop} {st : Sto} (e : b = true ↔ c) (h : Two (¬ c) Q st) : Q (!b) st := by
  cases b with
  | true => exact h.2 fun z => z (e.mp rfl)
  | false => exact h.1 fun z => by cases e.mpr z
/-- two ways, of a value -/
def TwoV (c : Prop) (Q : D → Sto → Prop) (st : Sto) : Prop := ∀ b : Bool, (b = true ↔ c) → Q (.bl b) st

theorem et_eqD (c : Cg P w K mg base N Gs Vi M k X) {a b : Expr} {pos} {Q : Bool → Sto → Prop} (q : EE X F en a st fun d1 st1 => EE X F en b st1 fun d2 st2 => pl 60 d1 = true ∧ pl 60 d2 = true ∧ Two (d1 = d2) Q st2) : ET X F en (.Compare a [.Eq] [b] pos) st Q :=
  et_cmp (op_eqD c.room.units) (nomark _) (fun d1 d2 st' x y H k ⟨p1, p2, q⟩ s a1 a2 h => ⟨_, _, pl_dp _ _ _ p1 a1, pl_dp _ _ _ p2 a2, pl_shaped p1 (by decide), pl_shaped p2 (by decide), h _ _ _ (q.iff (eqv_iff _ _ _ _ p1 p2)) s (.refl H)⟩) q
theorem et_neD (c : Cg P w K mg base N Gs Vi M k X) {a b : Expr} {pos} {Q : Bool → Sto → Prop} (q : EE X F en a st fun d1 st1 => EE X F en b st1 fun d2 st2 => pl 60 d1 = true ∧ pl 60 d2 = true ∧ Two (¬ d1 = d2) Q st2) : ET X F en (.Compare a [.NotEq] [b] pos) st Q :=
  et_cmp (op_neD c.room.units) (nomark _) (fun d1 d2 st' x y H k ⟨p1, p2, q⟩ s a1 a2 h => ⟨_, _, pl_dp _ _ _ p1 a1, pl_dp _ _ _ p2 a2, pl_shaped p1 (by decide), pl_shaped p2 (by decide), h _ _ _ (q.iffN (eqv_iff _ _ _ _ p1 p2)) s (.refl H)⟩) q
theorem ee_eqD (c : Cg P w K mg base N Gs Vi M k X) {a b : Expr} {pos} {Q : D → Sto → Prop} (q : EE X F en a st fun d1 st1 => EE X F en b st1 fun d2 st2 => pl 60 d1 = true ∧ pl 60 d2 = true ∧ TwoV (d1 = d2) Q st2) : EE X F en (.Compare a [.Eq] [b] pos) st Q :=
  ee_cmp2 (op_eqD c.room.units) (nomark _) (fun d1 d2 st' x y H k ⟨p1, p2, q⟩ s a1 a2 h => ⟨_, _, pl_dp _ _ _ p1 a1, pl_dp _ _ _ p2 a2, pl_shaped p1 (by decide), pl_shaped p2 (by decide), h _ _ _ _ (q _ (eqv_iff _ _ _ _ p1 p2)) s (.refl H) (at_bl.mpr rfl)⟩) q
theorem ee_neD (c : Cg P w K mg base N Gs Vi M k X) {a b : Expr} {pos} {Q : D → Sto → Prop} (q : EE X F en a st fun d1 st1 => EE X F en b st1 fun d2 st2 => pl 60 d1 = true ∧ pl 60 d2 = true ∧ TwoV (¬ d1 = d2) Q st2) : EE X F en (.Compare a [.NotEq] [b] pos) st Q :=
  ee_cmp2 (op_neD c.room.units) (nomark _) (fun d1 d2 st' x y H k ⟨p1, p2, q⟩ s a1 a2 h => ⟨_, _, pl_dp _ _ _ p1 a1, pl_dp _ _ _ p2 a2, pl_shaped p1 (by decide), pl_shaped p2 (by decide), h _ _ _ _ (q _ (by
    have := eqv_iff _ _ _ _ p1 p2
    cases hb : PyData.eqv (py d1) (py d2) with
    | true => rw [hb] at this; simp [this.mp rfl]
    | false => rw [hb] at this; simp; exact fun z => by cases this.mpr z)) s (.refl H) (at_bl.mpr rfl)⟩) q
/-- two lists of the store -/
theorem dpL {K : PySem.W.Frag} {H : Hp} {p : Addr} {ds : List D} {n : Nat} (h : ObjAt K H p false (.lst ds)) (q : pls n ds = true) : Dp K H (.ref p) (.list (pys ds)) := by
  obtain ⟨xs, h1, h2⟩ := h
  exact .lst (.inl h1) (pls_dp ds n xs q h2)
theorem et_neL (c : Cg P w K mg base N Gs Vi M k X) {a b : Expr} {pos} {Q : Bool → Sto → Prop} (q : EE X F en a st fun d1 st1 => EE X F en b st1 fun d2 st2 => ∃ p1 p2 ds es, d1 = .ref p1 ∧ d2 = .ref p2 ∧ Has st2 p1 (.lst ds) ∧ Has st2 p2 (.lst es) ∧ pls 60 ds = true ∧ pls 60 es = true ∧ Two (¬ ds = es) Q st2) : ET X F en (.Compare a [.NotEq] [b] pos) st Q :=
  et_cmp (op_neD c.room.units) (nomark _) (fun d1 d2 st' x y H k ⟨p1, p2, ds, es, e1, e2, h1, h2, l1, l2, q⟩ s a1 a2 h => by
    subst e1; subst e2
    rw [at_ref.mp a1, at_ref.mp a2]
    refine ⟨_, _, dpL (s.has h1) l1, dpL (s.has h2) l2, pls_shapedL l1 (by decide), pls_shapedL l2 (by decide), h _ _ _ (q.iffN ?_) s (.refl H)⟩
    show PyData.eqv (.list (pys ds)) (.list (pys es)) = true ↔ _
    simp only [PyData.eqv]
    exact eqvs_iff ds es 60 60 l1 l2) q
/-- l != [], l == [] -/
theorem et_neNil (c : Cg P w K mg base N Gs Vi M k X) {a : Expr} {pos p2} {Q : Bool → Sto → Prop} (q : EE X F en a st fun d1 st1 => ∃ p ds, d1 = .ref p ∧ Has st1 p (.lst ds) ∧ pls 60 ds = true ∧ Two (¬ ds = []) Q st1) : ET X F en (.Compare a [.NotEq] [.List [] p2] pos) st Q :=
  .intro fun σ H k s e h => ⟨_, pt_cmpR (op_neD c.room.units) pe_any (pe_lst pa_nil) (nomark _), q.use s e fun d1 st1 v1 H1 ⟨p, ds, e1, hh, l, q1⟩ a1 t1 at1 => ⟨Nat.zero_le _, fun r hr => by
    subst e1
    rw [at_ref.mp at1]
    have a2 := a1.alloc (o := .lst []) hr
    refine ⟨_, _, dpL (a2.has hh) l, .lst (.inl (.inl upd_same)) .nil, pls_shapedL l (by decide), pls_shapedL (n := 0) (ds := []) pls_nil (by decide), _, rfl, h _ st1 _ (q1.iffN ?_) a2 (t1.trans (.laid hr))⟩
    show PyData.eqv (.list (pys ds)) (.list (pys [])) = true ↔ _
    simp only [PyData.eqv]
    exact eqvs_iff ds [] 60 60 l pls_nil⟩⟩
theorem et_eqNil (c : Cg P w K mg base N Gs Vi M k X) {a : Expr} {pos p2} {Q : Bool → Sto → Prop} (q : EE X F en a st fun d1 st1 => ∃ p ds, d1 = .ref p ∧ Has st1 p (.lst ds) ∧ pls 60 ds = true ∧ Two (ds = []) Q st1) : ET X F en (.Compare a [.Eq] [.List [] p2] pos) st Q :=
  .intro fun σ H k s e h => ⟨_, pt_cmpR (op_eqD c.room.units) pe_any (pe_lst pa_nil) (nomark _), q.use s e fun d1 st1 v1 H1 ⟨p, ds, e1, hh, l, q1⟩ a1 t1 at1 => ⟨Nat.zero_le _, fun r hr => by
    subst e1
    rw [at_ref.mp at1]
    have a2 := a1.alloc (o := .lst []) hr
    refine ⟨_, _, dpL (a2.has hh) l, .lst (.inl (.inl upd_same)) .nil, pls_shapedL l (by decide), pls_shapedL (n := 0) (ds := []) pls_nil (by decide), _, rfl, h _ st1 _ (q1.iff ?_) a2 (t1.trans (.laid hr))⟩
    show PyData.eqv (.list (pys ds)) (.list (pys [])) = true ↔ _
    simp only [PyData.eqv]
    exact eqvs_iff ds [] 60 60 l pls_nil⟩⟩
/-- texts -/
theorem et_eqS {a b : Expr} {pos} {Q : Bool → Sto → Prop} (q : EE X F en a st fun d1 st1 => EE X F en b st1 fun d2 st2 => ∃ i j : Str, d1 = .str i ∧ d2 = .str j ∧ Two (i = j) Q st2) : ET X F en (.Compare a [.Eq] [b] pos) st Q :=
  et_cmp op_eq (nomark _) (fun d1 d2 st' x y H k ⟨i, j, e1, e2, q⟩ s a1 a2 h => by
    subst e1; subst e2
    rw [at_str.mp a1, at_str.mp a2]
    refine ⟨rfl, ?_⟩
    have e : decide (V.str i = V.str j) = decide (i = j) := decide_eq_decide.mpr ⟨fun z => V.str.inj z, fun z => by rw [z]⟩
    rw [e]
    exact h _ _ _ q.of s (.refl H)) q
theorem ee_eqS {a b : Expr} {pos} {Q : D → Sto → Prop} (q : EE X F en a st fun d1 st1 => EE X F en b st1 fun d2 st2 => ∃ i j : Str, d1 = .str i ∧ d2 = .str j ∧ TwoV (i = j) Q st2) : EE X F en (.Compare a [.Eq] [b] pos) st Q :=
  ee_cmp2 op_eq (nomark _) (fun d1 d2 st' x y H k ⟨i, j, e1, e2, q⟩ s a1 a2 h => by
    subst e1; subst e2
    rw [at_str.mp a1, at_str.mp a2]
    refine ⟨rfl, h _ _ _ _ (q _ ?_) s (.refl H) (at_bl.mpr rfl)⟩
    rw [decide_eq_true_iff]
    exact ⟨fun z => V.str.inj z, fun z => by rw [z]⟩) q
/-- bools: ==, !=, is, is not -/
theorem et_eqB {a b : Expr} {pos} {Q : Bool → Sto → Prop} (q : EE X F en a st fun d1 st1 => EE X F en b st1 fun d2 st2 => ∃ i j : Bool, d1 = .bl i ∧ d2 = .bl j ∧ Two (i = j) Q st2) : ET X F en (.Compare a [.Eq] [b] pos) st Q :=
  et_cmp op_eq (nomark _) (fun d1 d2 st' x y H k ⟨i, j, e1, e2, q⟩ s a1 a2 h => by
    subst e1; subst e2
    rw [at_bl.mp a1, at_bl.mp a2]
    refine ⟨rfl, ?_⟩
    have e : decide (V.bl i = V.bl j) = decide (i = j) := decide_eq_decide.mpr ⟨fun z => V.bl.inj z, fun z => by rw [z]⟩
    rw [e]
    exact h _ _ _ q.of s (.refl H)) q
theorem et_neB {a b : Expr} {pos} {Q : Bool → Sto → Prop} (q : EE X F en a st fun d1 st1 => EE X F en b st1 fun d2 st2 => ∃ i j : Bool, d1 = .bl i ∧ d2 = .bl j ∧ Two (¬ i = j) Q st2) : ET X F en (.Compare a [.NotEq] [b] pos) st Q :=
  et_cmp op_ne (nomark _) (fun d1 d2 st' x y H k ⟨i, j, e1, e2, q⟩ s a1 a2 h => by
    subst e1; subst e2
    rw [at_bl.mp a1, at_bl.mp a2]
    refine ⟨rfl, ?_⟩
    have e : decide (V.bl i = V.bl j) = decide (i = j) := decide_eq_decide.mpr ⟨fun z => V.bl.inj z, fun z => by rw [z]⟩
    rw [e]
    exact h _ _ _ q.ofN s (.refl H)) q
theorem et_isB {a b : Expr} {pos} {Q : Bool → Sto → Prop} (q : EE X F en a st fun d1 st1 => EE X F en b st1 fun d2 st2 => ∃ i j : Bool, d1 = .bl i ∧ d2 = .bl j ∧ Two (i = j) Q st2) : ET X F en (.Compare a [.Is] [b] pos) st Q :=
  et_cmp op_isBl (nomark _) (fun d1 d2 st' x y H k ⟨i, j, e1, e2, q⟩ s a1 a2 h => by
    subst e1; subst e2
    exact ⟨i, j, at_bl.mp a1, at_bl.mp a2, h _ _ _ q.of s (.refl H)⟩) q
theorem ee_isB {a b : Expr} {pos} {Q : D → Sto → Prop} (q : EE X F en a st fun d1 st1 => EE X F en b st1 fun d2 st2 => ∃ i j : Bool, d1 = .bl i ∧ d2 = .bl j ∧ Q (.bl (decide (i = j))) st2) : EE X F en (.Compare a [.Is] [b] pos) st Q :=
  ee_cmp2 op_isBl (nomark _) (fun d1 d2 st' x y H k ⟨i, j, e1, e2, q⟩ s a1 a2 h => by
    subst e1; subst e2
    exact ⟨i, j, at_bl.mp a1, at_bl.mp a2, h _ _ _ _ q s (.refl H) (at_bl.mpr rfl)⟩) q
theorem et_notB {a b : Expr} {pos} {Q : Bool → Sto → Prop} (q : EE X F en a st fun d1 st1 => EE X F en b st1 fun d2 st2 => ∃ i j : Bool, d1 = .bl i ∧ d2 = .bl j ∧ Two (¬ i = j) Q st2) : ET X F en (.Compare a [.IsNot] [b] pos) st Q :=
  et_cmp op_notBl (nomark _) (fun d1 d2 st' x y H k ⟨i, j, e1, e2, q⟩ s a1 a2 h => by
    subst e1; subst e2
    exact ⟨i, j, at_bl.mp a1, at_bl.mp a2, h _ _ _ q.ofN s (.refl H)⟩) q
/-- a ≤ b ≤ c -/
theorem ee_chainLe {a b e : Expr} {pos} {Q : D → Sto → Prop} (q : EE X F en a st fun d1 st1 => EE X F en b st1 fun d2 st2 => ∃ i j, d1 = .int i ∧ d2 = .int j ∧ (i ≤ j → EE X F en e st2 fun d3 st3 => ∃ l, d3 = .int l ∧ Q (.bl (decide (j ≤ l))) st3) ∧ (¬ i ≤ j → Q (.bl false) st2))
    (hm : lastMarks [.LtE, .LtE] [b, e] = false := by with_unfolding_all rfl) : EE X F en (.Compare a [.LtE, .LtE] [b, e] pos) st Q :=
  .intro fun σ H k s en h => ⟨_, pe_chain op_le op_le pe_any pe_any pe_any hm, q.use s en fun d1 st1 v1 H1 q1 a1 t1 at1 => EE.use q1 a1 (en.mono t1) fun d2 st2 v2 H2 ⟨i, j, e1, e2, q2, q3⟩ a2 t2 at2 => by
    subst e1; subst e2
    refine ⟨i, j, at_int.mp at1, at_int.mp at2, _, rfl, ?_⟩
    by_cases hij : i ≤ j
    · rw [decide_eq_true hij]
      first
        | rw [if_pos rfl]
        | skip
      exact EE.use (q2 hij) a2 ((en.mono t1).mono t2) fun d3 st3 v3 H3 ⟨l, e3, q4⟩ a3 t3 at3 => by
        subst e3
        exact ⟨j, l, at_int.mp at2, at_int.mp at3, h _ _ _ _ q4 a3 ((t1.trans t2).trans t3) (at_bl.mpr rfl)⟩
    · rw [decide_eq_false hij]
      first
        | rw [if_neg Bool.false_ne_true]
        | skip
      exact h _ _ _ _ (q3 hij) a2 (t1.trans t2) (at_bl.mpr rfl)⟩
end G
end
section
set_option Elab.async false
set_option linter.all false
set_option maxRecDepth 100000
set_option maxHeartbeats 4000000
/-! G5: tuples, lists, dicts, built-ins. -/
namespace G
open PySem L2
variable {X : Cx} {F : Fr} {en : Env} {st : Sto} {P : Program} {w : World} {K : PySem.W.Frag} {mg : Str → Option Value} {base : Heap} {N Gs : List Str} {Vi M : List Nat} {k : Nat}

/-! ### tuples -/
theorem ee_catT {a b : Expr} {pos} {Q : D → Sto → Prop} (q : EE X F en a st fun d1 st1 => EE X F en b st1 fun d2 st2 => ∃ ds es, d1 = .tup ds ∧ d2 = .tup es ∧ ds.length + es.length ≤ sizeLine ∧ Q (.tup (ds ++ es)) st2) : EE X F en (.BinOp a .Add b pos) st Q :=
  ee_op2 op_catA (fun d1 d2 st' x y H k ⟨ds, es, e1, e2, hl, q⟩ s a1 a2 h => by
    subst e1; subst e2
    obtain ⟨p, xs, rfl, h1, h2⟩ := at_tup.mp a1
    obtain ⟨p', ys, rfl, h3, h4⟩ := at_tup.mp a2
    refine ⟨p, p', xs, ys, rfl, rfl, h1, h3, by rw [h2.length, h4.length]; exact hl, fun e => ?_, fun _ e => ?_, fun _ _ r hr => ?_⟩
    · subst e
      have : ds = [] := List.length_eq_zero_iff.mp h2.length.symm
      subst this
      exact h _ _ _ _ q s (.refl H) (at_tup.mpr ⟨p', ys, rfl, h3, h4⟩)
    · subst e
      have : es = [] := List.length_eq_zero_iff.mp h4.length.symm
      subst this
      rw [List.append_nil] at q
      exact h _ _ _ _ q s (.refl H) (at_tup.mpr ⟨p, xs, rfl, h1, h2⟩)
    · exact h _ _ _ _ q (s.alloc hr) (.laid hr) (at_tup.mpr ⟨r, _, rfl, SqT.of upd_same, (h2.append h4).mono (.laid hr)⟩)) q
theorem cut_from {α : Type} (xs : List α) : (xs.drop (HT.sIx xs.length 0 (some 1))).take (HT.sIx xs.length xs.length none - HT.sIx xs.length 0 (some 1)) = xs.drop 1 := by
  have e : HT.sIx xs.length 0 (some 1) = min 1 xs.length := HT.sIx_nat xs.length 0 1
  rw [e, HT.sIx_none]
  cases xs with
  | nil => simp
  | cons x xs => simp
theorem cut_to {α : Type} (xs : List α) : (xs.drop (HT.sIx xs.length 0 none)).take (HT.sIx xs.length xs.length (some 1) - HT.sIx xs.length 0 none) = xs.take 1 := by
  have e : HT.sIx xs.length xs.length (some 1) = min 1 xs.length := HT.sIx_nat xs.length xs.length 1
  rw [e, HT.sIx_none]
  cases xs with
  | nil => simp
  | cons x xs => simp
/-- a slice of a tuple; what is cut: the places lo, hi -/
theorem ee_slT {a : Expr} {lo hi : Option Expr} {l u : Option Int} {p2 pos : Pos} {tl th : TO} {Q : D → Sto → Prop} (hl : PO X lo tl) (hh : PO X hi th) (kl : ∀ σ H k, k l H → tl σ H k) (kh : ∀ σ H k, k u H → th σ H k)
    {f : List D → List D} (hf : ∀ ds : List D, (ds.drop (HT.sIx ds.length 0 l)).take (HT.sIx ds.length ds.length u - HT.sIx ds.length 0 l) = f ds)
    (q : EE X F en a st fun d1 st1 => ∃ ds, d1 = .tup ds ∧ Q (.tup (f ds)) st1) : EE X F en (.Subscript a (.Slice lo hi none p2) pos) st Q :=
  .intro fun σ H k s e h => ⟨_, pe_slice sl_tupA pe_any hl hh, q.use s e fun d1 st1 v1 H1 ⟨ds, e1, q1⟩ a1 t1 at1 => kl _ _ _ (kh _ _ _ (by
    subst e1
    obtain ⟨p, xs, rfl, h1, h2⟩ := at_tup.mp at1
    have cut : Ats X.K H1 (cutV xs l u) (f ds) := by
      rw [← hf ds, ← h2.length]
      exact (h2.drop _).take _
    refine ⟨p, xs, rfl, h1, fun ⟨e1, e2⟩ => ?_, fun _ r hr => ?_⟩
    · refine h _ _ _ _ q1 a1 t1 (at_tup.mpr ⟨p, xs, rfl, h1, ?_⟩)
      have : cutV xs l u = xs := by
        unfold cutV
        rw [e1, e2]; simp
      rw [this] at cut
      exact cut
    · exact h _ _ _ _ q1 (a1.alloc hr) (t1.trans (.laid hr)) (at_tup.mpr ⟨r, _, rfl, SqT.of upd_same, cut.mono (.laid hr)⟩)))⟩
/-- t[1:] -/
theorem ee_from1 {a : Expr} {j p1 p2 pos} {Q : D → Sto → Prop} (q : EE X F en a st fun d1 st1 => ∃ ds, d1 = .tup ds ∧ Q (.tup (ds.drop 1)) st1) : EE X F en (.Subscript a (.Slice (some (.Constant (.int 1) j p1)) none none p2) pos) st Q :=
  ee_slT (l := some 1) (u := none) (f := fun ds => ds.drop 1) (po_some pe_int) po_none (fun σ H k h => ⟨1, rfl, h⟩) (fun σ H k h => h) (fun ds => cut_from ds) q
/-- t[:1] -/
theorem ee_to1 {a : Expr} {j p1 p2 pos} {Q : D → Sto → Prop} (q : EE X F en a st fun d1 st1 => ∃ ds, d1 = .tup ds ∧ Q (.tup (ds.take 1)) st1) : EE X F en (.Subscript a (.Slice none (some (.Constant (.int 1) j p1)) none p2) pos) st Q :=
  ee_slT (l := none) (u := some 1) (f := fun ds => ds.take 1) po_none (po_some pe_int) (fun σ H k h => h) (fun σ H k h => ⟨1, rfl, h⟩) (fun ds => cut_to ds) q
theorem ee_slL {a : Expr} {lo hi : Option Expr} {l u : Option Int} {p2 pos : Pos} {tl th : TO} {Q : D → Sto → Prop} (hl : PO X lo tl) (hh : PO X hi th) (kl : ∀ σ H k, k l H → tl σ H k) (kh : ∀ σ H k, k u H → th σ H k)
    {f : List D → List D} (hf : ∀ ds : List D, (ds.drop (HT.sIx ds.length 0 l)).take (HT.sIx ds.length ds.length u - HT.sIx ds.length 0 l) = f ds)
    (q : EE X F en a st fun d1 st1 => ∃ p ds, d1 = .ref p ∧ Has st1 p (.lst ds) ∧ ∀ r, Q (.ref r) (⟨r, true, .lst (f ds)⟩ :: st1)) : EE X F en (.Subscript a (.Slice lo hi none p2) pos) st Q :=
  .intro fun σ H k s e h => ⟨_, pe_slice sl_list pe_any hl hh, q.use s e fun d1 st1 v1 H1 ⟨p, ds, e1, hh', q1⟩ a1 t1 at1 => kl _ _ _ (kh _ _ _ (by
    subst e1
    obtain ⟨xs, h1, h2⟩ := a1.has hh'
    refine ⟨p, xs, at_ref.mp at1, .inl h1, fun r hr => ?_⟩
    have cut : Ats X.K H1 (cutV xs l u) (f ds) := by
      rw [← hf ds, ← h2.length]
      exact (h2.drop _).take _
    exact h _ _ _ _ (q1 r) (a1.new hr ⟨_, upd_same, cut.mono (.laid hr)⟩) (t1.trans (.laid hr)) (at_ref.mpr rfl)))⟩
theorem ee_from1L {a : Expr} {j p1 p2 pos} {Q : D → Sto → Prop} (q : EE X F en a st fun d1 st1 => ∃ p ds, d1 = .ref p ∧ Has st1 p (.lst ds) ∧ ∀ r, Q (.ref r) (⟨r, true, .lst (ds.drop 1)⟩ :: st1)) : EE X F en (.Subscript a (.Slice (some (.Constant (.int 1) j p1)) none none p2) pos) st Q :=
  ee_slL (l := some 1) (u := none) (f := fun ds => ds.drop 1) (po_some pe_int) po_none (fun σ H k h => ⟨1, rfl, h⟩) (fun σ H k h => h) (fun ds => cut_from ds) q
theorem ee_to1L {a : Expr} {j p1 p2 pos} {Q : D → Sto → Prop} (q : EE X F en a st fun d1 st1 => ∃ p ds, d1 = .ref p ∧ Has st1 p (.lst ds) ∧ ∀ r, Q (.ref r) (⟨r, true, .lst (ds.take 1)⟩ :: st1)) : EE X F en (.Subscript a (.Slice none (some (.Constant (.int 1) j p1)) none p2) pos) st Q :=
  ee_slL (l := none) (u := some 1) (f := fun ds => ds.take 1) po_none (po_some pe_int) (fun σ H k h => h) (fun σ H k h => ⟨1, rfl, h⟩) (fun ds => cut_to ds) q
/-- l[::-1] of a list -/
theorem ee_revL {a : Expr} {j : Nat} {p1 p2 p3 pos : Pos} {Q : D → Sto → Prop} (q : EE X F en a st fun d1 st1 => ∃ p ds, d1 = .ref p ∧ Has st1 p (.lst ds) ∧ ∀ r, Q (.ref r) (⟨r, true, .lst ds.reverse⟩ :: st1)) : EE X F en (.Subscript a (.Slice none none (some (.UnaryOp .USub (.Constant (.int 1) j p1) p2)) p3) pos) st Q :=
  .intro fun σ H k s e h => ⟨_, pe_revL pe_any, q.use s e fun d1 st1 v1 H1 ⟨p, ds, e1, hh', q1⟩ a1 t1 at1 => by
    subst e1
    obtain ⟨xs, h1, h2⟩ := a1.has hh'
    exact ⟨p, xs, at_ref.mp at1, .inl h1, fun r hr => h _ _ _ _ (q1 r) (a1.new hr ⟨_, upd_same, h2.reverse.mono (.laid hr)⟩) (t1.trans (.laid hr)) (at_ref.mpr rfl)⟩⟩

/-! ### in -/
theorem op_inT (hu : X.A.units + 65 < cLine) : OpR X (compareOp .In) (fun x y H Q => ∃ d ds, Dp X.K H x d ∧ Dp X.K H y (.tuple ds) ∧ SeqAt.shaped d = true ∧ SeqAt.shaped (.tuple ds) = true ∧ Q (.bl (ds.any fun z => PyData.eqv z d)) H) := by
  intro pins s σ H x y v u Q I rx ry h
  obtain ⟨d, ds, hd, he, sd, se, q⟩ := h
  obtain ⟨as, r1⟩ := Dp.reads I d x v hd rx
  obtain ⟨bs, r2⟩ := Dp.reads I (.tuple ds) y u he ry
  refine SeqAt.in_tuple_reads r2 r1 (SeqAt.canLay_of_shaped se) (SeqAt.canLay_of_shaped sd) ?_ ⟨.bl _, H, I, rfl, q⟩
  have h1 := SeqAt.depth_of_shaped sd
  have h2 : min (PyData.depthAll ds) d.depth ≤ d.depth := Nat.min_le_right _ _
  omega
theorem room65 {k : Nat} {A : Around} (r : Room k A) : A.units + 65 < cLine := by have := r.un; omega
/-- x in t, a tuple of plain data -/
theorem et_inT (c : Cg P w K mg base N Gs Vi M k X) {a b : Expr} {pos} {Q : Bool → Sto → Prop} (q : EE X F en a st fun d1 st1 => EE X F en b st1 fun d2 st2 => ∃ ds, d2 = .tup ds ∧ pl 60 d1 = true ∧ pls 60 ds = true ∧ Two (d1 ∈ ds) Q st2) (hm : behindInMarks .In b = false := by rfl) : ET X F en (.Compare a [.In] [b] pos) st Q :=
  et_cmp (op_inT (room65 c.room)) hm (fun d1 d2 st' x y H k ⟨ds, e, p1, p2, q⟩ s a1 a2 h => by
    subst e
    have z := pl_dp (.tup ds) 61 y (by rw [pl_tup]; exact p2) a2
    rw [py_tup] at z
    exact ⟨_, _, pl_dp _ _ _ p1 a1, z, pl_shaped p1 (by decide), pls_shapedT p2 (by decide), h _ _ _ (q.iff (any_iff p1 p2)) s (.refl H)⟩) q
theorem ee_inT (c : Cg P w K mg base N Gs Vi M k X) {a b : Expr} {pos} {Q : D → Sto → Prop} (q : EE X F en a st fun d1 st1 => EE X F en b st1 fun d2 st2 => ∃ ds, d2 = .tup ds ∧ pl 60 d1 = true ∧ pls 60 ds = true ∧ TwoV (d1 ∈ ds) Q st2) (hm : behindInMarks .In b = false := by rfl) : EE X F en (.Compare a [.In] [b] pos) st Q :=
  ee_cmp2 (op_inT (room65 c.room)) hm (fun d1 d2 st' x y H k ⟨ds, e, p1, p2, q⟩ s a1 a2 h => by
    subst e
    have z := pl_dp (.tup ds) 61 y (by rw [pl_tup]; exact p2) a2
    rw [py_tup] at z
    exact ⟨_, _, pl_dp _ _ _ p1 a1, z, pl_shaped p1 (by decide), pls_shapedT p2 (by decide), h _ _ _ _ (q _ (any_iff p1 p2)) s (.refl H) (at_bl.mpr rfl)⟩) q
/-- x in l, x not in l, a list of plain data -/
theorem et_inL (c : Cg P w K mg base N Gs Vi M k X) {a b : Expr} {pos} {Q : Bool → Sto → Prop} (q : EE X F en a st fun d1 st1 => EE X F en b st1 fun d2 st2 => ∃ p ds, d2 = .ref p ∧ Has st2 p (.lst ds) ∧ pl 60 d1 = true ∧ pls 60 ds = true ∧ Two (d1 ∈ ds) Q st2) (hm : behindInMarks .In b = false := by rfl) : ET X F en (.Compare a [.In] [b] pos) st Q :=
  et_cmp (op_inD (room65 c.room)) hm (fun d1 d2 st' x y H k ⟨p, ds, e, hh, p1, p2, q⟩ s a1 a2 h => by
    subst e
    rw [at_ref.mp a2]
    exact ⟨_, _, pl_dp _ _ _ p1 a1, dpL (s.has hh) p2, pl_shaped p1 (by decide), pls_shapedL p2 (by decide), h _ _ _ (q.iff (any_iff p1 p2)) s (.refl H)⟩) q
theorem ee_inL (c : Cg P w K mg base N Gs Vi M k X) {a b : Expr} {pos} {Q : D → Sto → Prop} (q : EE X F en a st fun d1 st1 => EE X F en b st1 fun d2 st2 => ∃ p ds, d2 = .ref p ∧ Has st2 p (.lst ds) ∧ pl 60 d1 = true ∧ pls 60 ds = true ∧ TwoV (d1 ∈ ds) Q st2) (hm : behindInMarks .In b = false := by rfl) : EE X F en (.Compare a [.In] [b] pos) st Q :=
  ee_cmp2 (op_inD (room65 c.room)) hm (fun d1 d2 st' x y H k ⟨p, ds, e, hh, p1, p2, q⟩ s a1 a2 h => by
    subst e
    rw [at_ref.mp a2]
    exact ⟨_, _, pl_dp _ _ _ p1 a1, dpL (s.has hh) p2, pl_shaped p1 (by decide), pls_shapedL p2 (by decide), h _ _ _ _ (q _ (any_iff p1 p2)) s (.refl H) (at_bl.mpr rfl)⟩) q
theorem et_ninL (c : Cg P w K mg base N Gs Vi M k X) {a b : Expr} {pos} {Q : Bool → Sto → Prop} (q : EE X F en a st fun d1 st1 => EE X F en b st1 fun d2 st2 => ∃ p ds, d2 = .ref p ∧ Has st2 p (.lst ds) ∧ pl 60 d1 = true ∧ pls 60 ds = true ∧ Two (¬ d1 ∈ ds) Q st2) (hm : behindInMarks .NotIn b = false := by rfl) : ET X F en (.Compare a [.NotIn] [b] pos) st Q :=
  et_cmp (op_notInD (room65 c.room)) hm (fun d1 d2 st' x y H k ⟨p, ds, e, hh, p1, p2, q⟩ s a1 a2 h => by
    subst e
    rw [at_ref.mp a2]
    exact ⟨_, _, pl_dp _ _ _ p1 a1, dpL (s.has hh) p2, pl_shaped p1 (by decide), pls_shapedL p2 (by decide), h _ _ _ (q.iffN (any_iff p1 p2)) s (.refl H)⟩) q

/-! ### lists -/
theorem tyL {K : PySem.W.Frag} {F : Fr} {st : Sto} {H : Hp} (s : SOk K F st H) {p : Addr} {ds : List D} (h : Has st p (.lst ds)) : tyV K "list" (.ref p) H := by
  obtain ⟨xs, h1, _⟩ := s.has h
  exact .inl ⟨rfl, xs, .inl h1⟩
theorem SOk.putL {K : PySem.W.Frag} {F : Fr} {st st' : Sto} {H : Hp} (s : SOk K F st H) {p : Addr} {ds es : List D} (h : Put st p (.lst ds) (.lst es) st') : ∃ xs, H p = some (.lst xs) ∧ Ats K H xs ds ∧
    ∀ ys, Ats K H ys es → SOk K F st' (upd H p (.lst ys)) ∧ TExt H (upd H p (.lst ys)) := by
  obtain ⟨xs, h1, h2⟩ := s.objs _ h.mem
  refine ⟨xs, h1, h2, fun ys hy => ?_⟩
  have t : TExt H (upd H p (.lst ys)) := TExt.write h1 trivial
  exact s.put h ⟨ys, upd_same, hy.mono t⟩
theorem ee_append {a e : Expr} {apos cpos : Pos} {Q : D → Sto → Prop} (q : EE X F en a st fun d1 st1 => ∃ p ds0, d1 = .ref p ∧ Has st1 p (.lst ds0) ∧ EE X F en e st1 fun d2 st2 => ∃ ds st3, Put st2 p (.lst ds) (.lst (ds ++ [d2])) st3 ∧ ds.length < sizeLine ∧ Q .non st3)
    (hbase : attributeBase a "append" X.env (eval a X.env) = eval a X.env := by rfl)
    (hfew : ((backTo cpos (starEach [e] X.env)).all (fun x => !x.1) && (backToKw cpos (keywordEach [] X.env)).all (fun x => x.1.isSome)
      && decide (([e] : List Expr).length + ([] : List Keyword).length + (if ([] : List Keyword).isEmpty then 0 else 1) < 30)) = true := by rfl)
    (hline : (apos.endLine == cpos.line) = true := by rfl) (hs : starEach [e] X.env = (false, eval e X.env) :: starEach [] X.env := by rfl) : EE X F en (.Call (.Attribute a "append" apos) [e] [] cpos) st Q :=
  .intro fun σ H k s en' h => ⟨_, pe_bm PySem.F.plainAttrs_list PySem.F.slot_list_append PySem.F.type_list_append mt_append pe_any (pa_cons pe_any pa_nil hs) hbase hfew hline hs rfl, q.use s en' fun d1 st1 v1 H1 ⟨p, ds0, e1, hh, q1⟩ a1 t1 at1 => by
    subst e1
    obtain rfl := at_ref.mp at1
    refine ⟨tyL a1 hh, EE.use q1 a1 (en'.mono t1) fun d2 st2 v2 H2 ⟨ds, st3, hp, hl, q2⟩ a2 t2 at2 => ?_⟩
    obtain ⟨xs, g1, g2, g3⟩ := a2.putL hp
    obtain ⟨g4, g5⟩ := g3 (xs ++ [v2]) (g2.append (.one at2))
    exact ⟨p, xs, v2, rfl, rfl, g1, by rw [g2.length]; exact hl, h _ _ _ _ q2 g4 ((t1.trans t2).trans g5) (at_non.mpr rfl)⟩⟩
/-- l.pop(0) -/
theorem ee_pop0 {a : Expr} {j p1} {apos cpos : Pos} {Q : D → Sto → Prop} (q : EE X F en a st fun d1 st1 => ∃ p d ds st3, d1 = .ref p ∧ Put st1 p (.lst (d :: ds)) (.lst ds) st3 ∧ Q d st3)
    (hbase : attributeBase a "pop" X.env (eval a X.env) = eval a X.env := by rfl) (hline : (apos.endLine == cpos.line) = true := by rfl) : EE X F en (.Call (.Attribute a "pop" apos) [.Constant (.int 0) j p1] [] cpos) st Q :=
  .intro fun σ H k s en' h => ⟨_, pe_bm PySem.F.plainAttrs_list PySem.F.slot_list_pop PySem.F.type_list_pop mt_popAt pe_any (pa_cons pe_int pa_nil rfl) hbase rfl hline rfl rfl, q.use s en' fun d1 st1 v1 H1 ⟨p, d, ds, st3, e1, hp, q1⟩ a1 t1 at1 => by
    subst e1
    obtain rfl := at_ref.mp at1
    obtain ⟨xs, g1, g2, g3⟩ := a1.putL hp
    obtain ⟨v, r, rfl, k1, k2⟩ := ats_cons.mp g2
    obtain ⟨g4, g5⟩ := g3 r k2
    refine ⟨.inl ⟨rfl, _, SqL.of g1⟩, p, v :: r, 0, 0, v, rfl, rfl, g1, by decide, by decide, ?_, rfl, h _ _ _ _ q1 g4 (t1.trans g5) (k1.mono g5)⟩
    have : 0 < (v :: r).length := by simp
    unfold seqIndex?
    simp⟩
/-- l.pop() -/
theorem ee_pop {a : Expr} {apos cpos : Pos} {Q : D → Sto → Prop} (q : EE X F en a st fun d1 st1 => ∃ p d ds st3, d1 = .ref p ∧ Put st1 p (.lst (ds ++ [d])) (.lst ds) st3 ∧ Q d st3)
    (hbase : attributeBase a "pop" X.env (eval a X.env) = eval a X.env := by rfl) (hline : (apos.endLine == cpos.line) = true := by rfl) : EE X F en (.Call (.Attribute a "pop" apos) [] [] cpos) st Q :=
  .intro fun σ H k s en' h => ⟨_, pe_bm0 PySem.F.plainAttrs_list PySem.F.slot_list_pop PySem.F.type_list_pop mt_pop pe_any hbase hline, q.use s en' fun d1 st1 v1 H1 ⟨p, d, ds, st3, e1, hp, q1⟩ a1 t1 at1 => by
    subst e1
    obtain rfl := at_ref.mp at1
    obtain ⟨xs, g1, g2, g3⟩ := a1.putL hp
    have hl : xs.length = ds.length + 1 := by rw [g2.length]; simp
    obtain ⟨v, hv, ha⟩ := g2.get (i := xs.length - 1) (d := d) (by rw [hl]; simp)
    have hd : Ats X.K H1 xs.dropLast ds := by
      rw [List.dropLast_eq_take]
      have := g2.take (xs.length - 1)
      rw [hl] at this ⊢
      simpa using this
    obtain ⟨g4, g5⟩ := g3 _ hd
    exact ⟨.inl ⟨rfl, _, SqL.of g1⟩, p, xs, v, rfl, rfl, g1, hv, h _ _ _ _ q1 g4 (t1.trans g5) (ha.mono g5)⟩⟩
/-- l.extend(m), m another list that may be written -/
theorem ee_extend {a e : Expr} {apos cpos : Pos} {Q : D → Sto → Prop} (q : EE X F en a st fun d1 st1 => ∃ p ds0, d1 = .ref p ∧ Has st1 p (.lst ds0) ∧ EE X F en e st1 fun d2 st2 => ∃ p2 ds es st3 st4, d2 = .ref p2 ∧ Put st2 p2 (.lst es) (.lst es) st4 ∧ Put st2 p (.lst ds) (.lst (ds ++ es)) st3 ∧ ds.length + es.length ≤ sizeLine ∧ Q .non st3)
    (hbase : attributeBase a "extend" X.env (eval a X.env) = eval a X.env := by rfl)
    (hfew : ((backTo cpos (starEach [e] X.env)).all (fun x => !x.1) && (backToKw cpos (keywordEach [] X.env)).all (fun x => x.1.isSome)
      && decide (([e] : List Expr).length + ([] : List Keyword).length + (if ([] : List Keyword).isEmpty then 0 else 1) < 30)) = true := by rfl)
    (hline : (apos.endLine == cpos.line) = true := by rfl) (hs : starEach [e] X.env = (false, eval e X.env) :: starEach [] X.env := by rfl) : EE X F en (.Call (.Attribute a "extend" apos) [e] [] cpos) st Q :=
  .intro fun σ H k s en' h => ⟨_, pe_bm PySem.F.plainAttrs_list PySem.F.slot_list_extend PySem.F.type_list_extend mt_extend pe_any (pa_cons pe_any pa_nil hs) hbase hfew hline hs rfl, q.use s en' fun d1 st1 v1 H1 ⟨p, ds0, e1, hh, q1⟩ a1 t1 at1 => by
    subst e1
    obtain rfl := at_ref.mp at1
    refine ⟨tyL a1 hh, EE.use q1 a1 (en'.mono t1) fun d2 st2 v2 H2 ⟨p2, ds, es, st3, st4, e2, hp2, hp, hl, q2⟩ a2 t2 at2 => ?_⟩
    subst e2
    obtain rfl := at_ref.mp at2
    obtain ⟨xs, g1, g2, g3⟩ := a2.putL hp
    obtain ⟨ys, k1, k2, _⟩ := a2.putL hp2
    obtain ⟨g4, g5⟩ := g3 (xs ++ ys) (g2.append k2)
    exact ⟨p, p2, xs, ys, rfl, rfl, g1, k1, by rw [g2.length, k2.length]; exact hl, h _ _ _ _ q2 g4 ((t1.trans t2).trans g5) (at_non.mpr rfl)⟩⟩
/-- l[i] = .., a target -/
theorem eg_setL {vs : List Nat} {a b : Expr} {pos : Pos} {d : D} {Q : Env → Sto → Prop} (q : EE X F en a st fun d1 st1 => EE X F en b st1 fun d2 st2 => ∃ p ds i j st3, d1 = .ref p ∧ d2 = .int i ∧ ixN ds.length i = some j ∧ Put st2 p (.lst ds) (.lst (ds.set j d)) st3 ∧ Q en st3)
    (ha : ∀ v, assign (.Subscript a b pos) X.env v = (do
      let ov ← holding [v] (eval a X.env)
      let iv ← holding [v, ov] (eval b X.env)
      standAt pos
      holding [v, ov, iv] (setItem ov iv v)
      release [v, ov, iv] []) := by intro _; rfl) : EG X F vs (.Subscript a b pos) d en st Q :=
  .intro fun v σ H k a0 s e h => ⟨_, pg_sub pe_any pe_any set_list ha, q.use s e fun d1 st1 v1 H1 q1 a1 t1 at1 => EE.use q1 a1 (e.mono t1) fun d2 st2 v2 H2 ⟨p, ds, i, j, st3, e1, e2, hj, hp, q2⟩ a2 t2 at2 => by
    subst e1; subst e2
    obtain ⟨xs, g1, g2, g3⟩ := a2.putL hp
    obtain ⟨g4, g5⟩ := g3 (xs.set j v) (Ats.set ((a0.mono t1).mono t2) j g2)
    exact ⟨p, xs, i, j, at_ref.mp at1, at_int.mp at2, g1, by rw [g2.length]; exact hj, h _ _ _ _ q2 g4 (((e.mono t1).mono t2).mono g5) ((t1.trans t2).trans g5) ⟨rfl, fun _ _ => rfl⟩⟩⟩
/-- l + m -/
theorem ee_catL {a b : Expr} {pos} {Q : D → Sto → Prop} (q : EE X F en a st fun d1 st1 => EE X F en b st1 fun d2 st2 => ∃ p1 p2 ds es st3 st4, d1 = .ref p1 ∧ d2 = .ref p2 ∧ Put st2 p1 (.lst ds) (.lst ds) st3 ∧ Put st2 p2 (.lst es) (.lst es) st4 ∧ ds.length + es.length ≤ sizeLine ∧ ∀ r, Q (.ref r) (⟨r, true, .lst (ds ++ es)⟩ :: st2)) : EE X F en (.BinOp a .Add b pos) st Q :=
  ee_op2 op_cat (fun d1 d2 st' x y H k ⟨p1, p2, ds, es, st3, st4, e1, e2, h1, h2, hl, q⟩ s a1 a2 h => by
    subst e1; subst e2
    obtain ⟨xs, g1, g2, _⟩ := s.putL h1
    obtain ⟨ys, k1, k2, _⟩ := s.putL h2
    exact ⟨p1, p2, xs, ys, at_ref.mp a1, at_ref.mp a2, g1, k1, by rw [g2.length, k2.length]; exact hl, fun r hr => h _ _ _ _ (q r) (s.new hr ⟨_, upd_same, (g2.append k2).mono (.laid hr)⟩) (.laid hr) (at_ref.mpr rfl)⟩) q

/-! ### dicts -/
theorem KAts.nil {K : PySem.W.Frag} {H : Hp} {ks : List (Key × V)} (h : KAts K H ks []) : ks = [] := by
  have := h.1
  simpa using this
theorem KAts.cons {K : PySem.W.Frag} {H : Hp} {ks : List (Key × V)} {kv : Int × D} {kvs : List (Int × D)} : KAts K H ks (kv :: kvs) ↔ ∃ v r, ks = (Sum.inl kv.1, v) :: r ∧ At K H v kv.2 ∧ KAts K H r kvs := by
  constructor
  · rintro ⟨h1, h2⟩
    cases ks with
    | nil => simp at h1
    | cons q r =>
      obtain ⟨q1, q2⟩ := q
      simp only [List.map_cons, List.cons.injEq] at h1
      obtain ⟨v, r', e, h3, h4⟩ := ats_cons.mp h2
      simp only [List.map_cons, List.cons.injEq] at e
      obtain ⟨e1, e2⟩ := e
      subst e1 e2
      obtain ⟨h5, h6⟩ := h1
      have h5 : q1 = Sum.inl kv.1 := h5
      subst h5
      exact ⟨q2, r, rfl, h3, h6, h4⟩
  · rintro ⟨v, r, rfl, h1, h2, h3⟩
    exact ⟨by simp [h2], ats_cons.mpr ⟨v, _, rfl, h1, h3⟩⟩
theorem KAts.mono {K : PySem.W.Frag} {H H' : Hp} (t : TExt H H') {ks : List (Key × V)} {kvs : List (Int × D)} (h : KAts K H ks kvs) : KAts K H' ks kvs := ⟨h.1, h.2.mono t⟩
theorem KAts.length {K : PySem.W.Frag} {H : Hp} {ks : List (Key × V)} {kvs : List (Int × D)} (h : KAts K H ks kvs) : ks.length = kvs.length := by
  have := congrArg List.length h.1
  simpa using this
theorem KAts.look {K : PySem.W.Frag} {H : Hp} {n : Int} : ∀ {kvs : List (Int × D)} {ks : List (Key × V)}, KAts K H ks kvs → (∀ d, kvs.lookup n = some d → ∃ v, valV ks (Sum.inl n) = some v ∧ At K H v d) ∧ (kvs.lookup n = none → valV ks (Sum.inl n) = none)
  | [], ks, h => by
    rw [h.nil]
    exact ⟨fun d e => by simp at e, fun _ => rfl⟩
  | kv :: kvs, ks, h => by
    obtain ⟨v, r, rfl, h1, h2⟩ := KAts.cons.mp h
    obtain ⟨i1, i2⟩ := KAts.look (n := n) h2
    by_cases e : kv.1 = n
    · have e2 : valV ((Sum.inl kv.1, v) :: r) (Sum.inl n : Key) = some v := valV_pos (p := ((Sum.inl kv.1 : Key), v)) (by rw [e])
      rw [e2]
      have e3 : (kv :: kvs).lookup n = some kv.2 := by rw [List.lookup_cons]; simp [e]
      rw [e3]
      exact ⟨fun d q => ⟨v, rfl, by cases q; exact h1⟩, fun q => by cases q⟩
    · have e2 : valV ((Sum.inl kv.1, v) :: r) (Sum.inl n : Key) = valV r (Sum.inl n) := valV_neg (p := ((Sum.inl kv.1 : Key), v)) (fun z => e (Sum.inl.inj z))
      rw [e2]
      have e3 : (kv :: kvs).lookup n = kvs.lookup n := by
        have : (n == kv.1) = false := by rw [beq_eq_false_iff_ne]; exact fun z => e z.symm
        rw [List.lookup_cons, this]
      rw [e3]
      exact ⟨i1, i2⟩
theorem KAts.snoc {K : PySem.W.Frag} {H : Hp} {ks : List (Key × V)} {kvs : List (Int × D)} {n : Int} {v : V} {d : D} (h : KAts K H ks kvs) (a : At K H v d) : KAts K H (ks ++ [(Sum.inl n, v)]) (kvs ++ [(n, d)]) :=
  ⟨by simp [h.1], by simpa using h.2.append (.one a)⟩
/-- {k: v} -/
theorem ee_disp1 (c : Cg P w K mg base N Gs Vi M k X) {a b : Expr} {pos : Pos} {Q : D → Sto → Prop} (q : ∀ p, EE X F en a (⟨p, true, .dic []⟩ :: st) fun d1 st1 => EE X F en b st1 fun d2 st2 => ∃ n st3, d1 = .int n ∧ Put st2 p (.dic []) (.dic [(n, d2)]) st3 ∧ Q (.ref p) st3) : EE X F en (.Dict [some a] [b] pos) st Q :=
  .intro fun σ H k s e h => ⟨_, pe_disp (pps_cons pe_any pe_any pps_nil) rfl rfl (by simp) (by simp), fun p hp => by
    have s1 := s.new (o := .dic []) hp ⟨[], upd_same, rfl, ats_nil.mpr rfl⟩
    refine (q p).use s1 (e.mono (.laid hp)) fun d1 st1 v1 H1 q1 a1 t1 at1 => EE.use q1 a1 ((e.mono (.laid hp)).mono t1) fun d2 st2 v2 H2 ⟨n, st3, e1, hput, q2⟩ a2 t2 at2 => ?_
    subst e1
    obtain ⟨ks, g1, g2⟩ := a2.objs _ hput.mem
    have g2 := g2.nil
    subst g2
    refine ⟨g1, [(Sum.inl n, v2)], by rw [at_int.mp at1]; rfl, by simp, ?_⟩
    have t : TExt H2 (upd H2 p (.dK [(Sum.inl n, v2)])) := TExt.write g1 trivial
    obtain ⟨z1, z2⟩ := a2.put (u := .dK [(Sum.inl n, v2)]) hput ⟨_, upd_same, rfl, .one (at2.mono t)⟩
    exact h _ _ _ _ q2 z1 ((((TExt.laid hp).trans t1).trans t2).trans z2) (at_ref.mpr rfl)⟩
/-- what may be read as a dict -/
theorem hu1 {k : Nat} {A : Around} (r : Room k A) : A.units + 1 < cLine := hu_of r
theorem dget_of {K : PySem.W.Frag} {H : Hp} {p : Addr} {kvs : List (Int × D)} {n : Int} (h : ObjAt K H p false (.dic kvs)) : (∀ d, kvs.lookup n = some d → ∃ v, DGet H p (.int n) (some v) ∧ At K H v d) ∧ (kvs.lookup n = none → DGet H p (.int n) none) := by
  obtain ⟨ks, h1, h2⟩ := h
  obtain ⟨l1, l2⟩ := h2.look (n := n)
  have g : ∀ o, valV ks (Sum.inl n) = o → DGet H p (.int n) o := fun o e => .inl ⟨ks, Sum.inl n, h1, rfl, e.symm⟩
  exact ⟨fun d e => let ⟨v, hv, ha⟩ := l1 d e; ⟨v, g _ hv, ha⟩, fun e => g _ (l2 e)⟩
theorem ee_dget (c : Cg P w K mg base N Gs Vi M k X) {a b : Expr} {pos : Pos} {Q : D → Sto → Prop} (q : EE X F en a st fun d1 st1 => EE X F en b st1 fun d2 st2 => ∃ p kvs n d, d1 = .ref p ∧ d2 = .int n ∧ Has st2 p (.dic kvs) ∧ kvs.lookup n = some d ∧ Q d st2) (hs : NoSl b := by exact fun _ _ => rfl) : EE X F en (.Subscript a b pos) st Q :=
  .intro fun σ H k s e h => ⟨_, pe_dget (hu1 c.room) pe_any pe_any hs, q.use s e fun d1 st1 v1 H1 q1 a1 t1 at1 => EE.use q1 a1 (e.mono t1) fun d2 st2 v2 H2 ⟨p, kvs, n, d, e1, e2, hh, hl, q2⟩ a2 t2 at2 => by
    subst e1; subst e2
    obtain ⟨v, hv, ha⟩ := (dget_of (n := n) (a2.has hh)).1 d hl
    rw [at_int.mp at2]
    exact ⟨p, v, at_ref.mp at1, hv, h _ _ _ _ q2 a2 (t1.trans t2) ha⟩⟩
theorem et_din (c : Cg P w K mg base N Gs Vi M k X) {a b : Expr} {pos : Pos} {Q : Bool → Sto → Prop} (q : EE X F en a st fun d1 st1 => EE X F en b st1 fun d2 st2 => ∃ p kvs n, d1 = .int n ∧ d2 = .ref p ∧ Has st2 p (.dic kvs) ∧ (∀ d, kvs.lookup n = some d → Q true st2) ∧ (kvs.lookup n = none → Q false st2)) (hm : behindInMarks .In b = false := by rfl) : ET X F en (.Compare a [.In] [b] pos) st Q :=
  .intro fun σ H k s e h => ⟨_, pt_cmp (pc_din (hu1 c.room) pe_any pe_any) hm, q.use s e fun d1 st1 v1 H1 q1 a1 t1 at1 => EE.use q1 a1 (e.mono t1) fun d2 st2 v2 H2 ⟨p, kvs, n, e1, e2, hh, q2, q3⟩ a2 t2 at2 => by
    subst e1; subst e2
    obtain ⟨g1, g2⟩ := dget_of (n := n) (a2.has hh)
    rw [at_int.mp at1, at_ref.mp at2]
    cases hl : kvs.lookup n with
    | none => exact ⟨p, none, rfl, g2 hl, false, rfl, h _ _ _ (q3 hl) a2 (t1.trans t2)⟩
    | some d =>
      obtain ⟨v, hv, _⟩ := g1 d hl
      exact ⟨p, some v, rfl, hv, true, rfl, h _ _ _ (q2 d hl) a2 (t1.trans t2)⟩⟩
theorem et_dnin (c : Cg P w K mg base N Gs Vi M k X) {a b : Expr} {pos : Pos} {Q : Bool → Sto → Prop} (q : EE X F en a st fun d1 st1 => EE X F en b st1 fun d2 st2 => ∃ p kvs n, d1 = .int n ∧ d2 = .ref p ∧ Has st2 p (.dic kvs) ∧ (kvs.lookup n = none → Q true st2) ∧ (∀ d, kvs.lookup n = some d → Q false st2)) (hm : behindInMarks .NotIn b = false := by rfl) : ET X F en (.Compare a [.NotIn] [b] pos) st Q :=
  .intro fun σ H k s e h => ⟨_, pt_cmp (pc_dnotin (hu1 c.room) pe_any pe_any) hm, q.use s e fun d1 st1 v1 H1 q1 a1 t1 at1 => EE.use q1 a1 (e.mono t1) fun d2 st2 v2 H2 ⟨p, kvs, n, e1, e2, hh, q2, q3⟩ a2 t2 at2 => by
    subst e1; subst e2
    obtain ⟨g1, g2⟩ := dget_of (n := n) (a2.has hh)
    rw [at_int.mp at1, at_ref.mp at2]
    cases hl : kvs.lookup n with
    | none => exact ⟨p, none, rfl, g2 hl, true, rfl, h _ _ _ (q2 hl) a2 (t1.trans t2)⟩
    | some d =>
      obtain ⟨v, hv, _⟩ := g1 d hl
      exact ⟨p, some v, rfl, hv, false, rfl, h _ _ _ (q3 d hl) a2 (t1.trans t2)⟩⟩
/-- a new key -/
theorem SOk.putD {K : PySem.W.Frag} {F : Fr} {st st' : Sto} {H : Hp} (s : SOk K F st H) {p : Addr} {kvs : List (Int × D)} {n : Int} {v : V} {d : D} (h : Put st p (.dic kvs) (.dic (kvs ++ [(n, d)])) st') (hn : kvs.lookup n = none) (hl : kvs.length < sizeLine) (a : At K H v d) :
    ∃ H', DPut H p (.int n) v H' ∧ SOk K F st' H' ∧ TExt H H' := by
  obtain ⟨ks, h1, h2⟩ := s.objs _ h.mem
  have e : putK ks (Sum.inl n) v = ks ++ [(Sum.inl n, v)] := putK_new v ((h2.look (n := n)).2 hn)
  have t : TExt H (upd H p (.dK (ks ++ [(Sum.inl n, v)]))) := TExt.write h1 trivial
  obtain ⟨z1, z2⟩ := s.put (u := .dK (ks ++ [(Sum.inl n, v)])) h ⟨_, upd_same, (h2.snoc a).mono t⟩
  refine ⟨_, ?_, z1, z2⟩
  have := DPut.k (v := v) (k := Sum.inl n) h1 (by rw [h2.length]; exact hl)
  rw [e] at this
  exact this
theorem ss_dput (c : Cg P w K mg base N Gs Vi M k X) {a b e : Expr} {pos pos' : Pos} {Nn : Env → Sto → Prop} {R : D → Sto → Prop} (q : EE X F en e st fun d st1 => EE X F en a st1 fun d1 st2 => EE X F en b st2 fun d2 st3 => ∃ p kvs n st4, d1 = .ref p ∧ d2 = .int n ∧ Put st3 p (.dic kvs) (.dic (kvs ++ [(n, d)])) st4 ∧ kvs.lookup n = none ∧ kvs.length < sizeLine ∧ Nn en st4)
    (hs : swapsWith e (some (.Subscript a b pos')) pos.line X.env = pure false := by rfl) : SS X F (.Assign [.Subscript a b pos'] e pos) en st Nn R :=
  .intro fun σ H D s en' n r => ⟨_, ps_dput (hu1 c.room) pe_any pe_any pe_any hs, q.use s en' fun d st1 v H1 q1 a1 t1 at1 => EE.use q1 a1 (en'.mono t1) fun d1 st2 v1 H2 q2 a2 t2 at2 => EE.use q2 a2 ((en'.mono t1).mono t2) fun d2 st3 v2 H3 ⟨p, kvs, m, st4, e1, e2, hp, hn, hl, q3⟩ a3 t3 at3 => by
    subst e1; subst e2
    obtain ⟨H4, g1, g2, g3⟩ := a3.putD hp hn hl ((at1.mono t2).mono t3)
    rw [at_int.mp at3]
    exact ⟨p, H4, at_ref.mp at2, g1, n _ _ _ _ q3 g2 ((((en'.mono t1).mono t2).mono t3).mono g3) (((t1.trans t2).trans t3).trans g3)⟩⟩
/-- d[k] = .., as a target among others -/
theorem eg_dput (c : Cg P w K mg base N Gs Vi M k X) {vs : List Nat} {a b : Expr} {pos : Pos} {d : D} {Q : Env → Sto → Prop} (q : EE X F en a st fun d1 st1 => EE X F en b st1 fun d2 st2 => ∃ p kvs n st3, d1 = .ref p ∧ d2 = .int n ∧ Put st2 p (.dic kvs) (.dic (kvs ++ [(n, d)])) st3 ∧ kvs.lookup n = none ∧ kvs.length < sizeLine ∧ Q en st3)
    (ha : ∀ v, assign (.Subscript a b pos) X.env v = (do
      let ov ← holding [v] (eval a X.env)
      let iv ← holding [v, ov] (eval b X.env)
      standAt pos
      holding [v, ov, iv] (setItem ov iv v)
      release [v, ov, iv] []) := by intro _; rfl) : EG X F vs (.Subscript a b pos) d en st Q :=
  .intro fun v σ H k a0 s e h => ⟨_, pg_sub pe_any pe_any (set_dict (hu1 c.room)) ha, q.use s e fun d1 st1 v1 H1 q1 a1 t1 at1 => EE.use q1 a1 (e.mono t1) fun d2 st2 v2 H2 ⟨p, kvs, n, st3, e1, e2, hp, hn, hl, q2⟩ a2 t2 at2 => by
    subst e1; subst e2
    obtain ⟨H4, g1, g2, g3⟩ := a2.putD hp hn hl ((a0.mono t1).mono t2)
    rw [at_int.mp at2]
    exact ⟨p, H4, at_ref.mp at1, g1, h _ _ _ _ q2 g2 (((e.mono t1).mono t2).mono g3) ((t1.trans t2).trans g3) ⟨rfl, fun _ _ => rfl⟩⟩⟩
end G
end
section
set_option Elab.async false
set_option linter.all false
set_option maxRecDepth 100000
set_option maxHeartbeats 4000000
/-! S1: sorting tuples of whole numbers of either sign. -/
namespace G.Sg
open PySem L2
open PyProof.Rows
/-- the rank of a tuple whose numbers stand between -M and B - M -/
def rk (M B : Int) (ns : List Int) : Int := TS.code B (ns.map (· + M))
def Bs (M B : Int) (ns : List Int) : Prop := TS.Bd B (ns.map (· + M))
theorem Bs.tl {M B d : Int} {r : List Int} (h : Bs M B (d :: r)) : Bs M B r := TS.Bd.tail (d := d + M) h
theorem rk_lt {M B p q : Int} {ns ms : List Int} (hl : ns.length = ms.length) (h1 : Bs M B ns) (h2 : Bs M B ms) (h : p < q) : rk M B (p :: ns) < rk M B (q :: ms) :=
  TS.code_lt (d := p + M) (e := q + M) (by simpa using hl) h1 h2 (by omega)
theorem rk_eq {M B p : Int} {ns ms : List Int} (hl : ns.length = ms.length) : rk M B (p :: ns) < rk M B (p :: ms) ↔ rk M B ns < rk M B ms :=
  TS.code_same (by simpa using hl)
theorem bs_of {M B : Int} {ns : List Int} (h : ∀ m ∈ ns, -M ≤ m ∧ m + M < B) : Bs M B ns := fun m hm => by
  obtain ⟨n, hn, rfl⟩ := List.mem_map.mp hm
  have := h n hn
  constructor <;> omega
section
variable {prog : Program} {w : World} {A : Around} {E : Value → Shared → Prop} {s : Shared}
/-- two tuples of one length, item by item -/
theorem lexS {M B : Int} {b : Bool} : ∀ {ns ms : List Int} {xs ys : List Value} (i : Nat) {Q : Bool → Shared → Prop}, IntsAre xs ns → IntsAre ys ms → ns.length = ms.length → Bs M B ns → Bs M B ms → Q (decide (rk M B ns < rk M B ms)) s →
    PySem.W.KatLex prog w A b false Q (xs.zip ys) i s
  | _, _, _, _, i, Q, .nil, .nil, _, _, _, h => by
    have e : decide (rk M B [] < rk M B []) = false := decide_eq_false (Int.lt_irrefl _)
    exact PySem.W.kat_nil (by rw [e] at h; exact h)
  | _, _, _, _, i, Q, .nil, .cons .., hl, _, _, _ => by simp at hl
  | _, _, _, _, i, Q, .cons .., .nil, hl, _, _, _ => by simp at hl
  | _, _, _, _, i, Q, @IntsAre.cons p t xs ns hx, @IntsAre.cons q u ys ms hy, hl, h1, h2, h => by
    have l2 : ns.length = ms.length := by simpa using hl
    show PySem.W.KatLex prog w A b false Q ((Value.int p t, Value.int q u) :: xs.zip ys) i s
    refine PySem.W.kat_cons (wpAny_eqBool_int ?_)
    rcases Int.lt_trichotomy p q with c | c | c
    · rw [show (p == q) = false from beq_eq_false_iff_ne.mpr (by omega)]
      rw [decide_eq_true (rk_lt l2 h1.tl h2.tl c)] at h
      exact PySem.W.kat_no (TS.oneLt_ints _ (by rw [decide_eq_true c]; exact h))
    · subst c
      rw [beq_self_eq_true]
      rw [decide_eq_decide.mpr (rk_eq (p := p) l2)] at h
      exact PySem.W.kat_yes (lexS (i + 1) hx hy l2 h1.tl h2.tl h)
    · rw [show (p == q) = false from beq_eq_false_iff_ne.mpr (by omega)]
      have z := rk_lt l2.symm h2.tl h1.tl c
      rw [decide_eq_false (show ¬ rk M B (p :: ns) < rk M B (q :: ms) by omega)] at h
      exact PySem.W.kat_no (TS.oneLt_ints _ (by rw [decide_eq_false (show ¬ p < q by omega)]; exact h))
/-- tuples of d numbers each, within the bounds -/
def Tups (h : Heap) (d : Nat) (M B : Int) (vs : List Value) : Prop := ∀ v ∈ vs, ∃ ns, TS.TupInts h v ns ∧ ns.length = d ∧ Bs M B ns
theorem Tups.keeps {h h' : Heap} {d : Nat} {M B : Int} {vs : List Value} (x : Tups h d M B vs) (k : ∀ b o, h.get? b = some o → o.cls = .type "tuple" → h'.get? b = some o) : Tups h' d M B vs :=
  fun v hv => let ⟨ns, t, r⟩ := x v hv; ⟨ns, t.keeps k, r⟩
theorem firstsS {h : Heap} {d : Nat} {M B : Int} (hd : 1 ≤ d) : ∀ vs : List Value, Tups h d M B vs → ∃ fs, PySem.W.KatTups h vs fs ∧ fs.length = vs.length ∧ ∀ f ∈ fs, ∃ n t, f = Value.int n t
  | [], _ => ⟨[], .nil, rfl, fun f hf => nomatch hf⟩
  | v :: vs, x => by
    obtain ⟨fs, k, hl, hi⟩ := firstsS hd vs fun u hu => x u (List.mem_cons_of_mem _ hu)
    obtain ⟨ns, ⟨a, xs, rfl, ⟨o, ho, hc, n, hdt⟩, i⟩, hn, _⟩ := x v List.mem_cons_self
    have hlen := i.length
    cases q : xs.toList with
    | nil => rw [q] at hlen; simp at hlen; omega
    | cons y ys =>
      obtain ⟨m, t, hy⟩ := i.all y (q ▸ List.mem_cons_self)
      refine ⟨y :: fs, .cons ho hc hdt (by have z := congrArg (fun l : List Value => l[0]?) q; simpa using z) k, by simp [hl], fun f hf => ?_⟩
      rcases List.mem_cons.mp hf with rfl | hf
      · exact ⟨m, t, hy⟩
      · exact hi f hf
theorem kindS {d : Nat} {M B : Int} {vs : List Value} (hd : 1 ≤ d) (h2 : 2 ≤ vs.length) (x : Tups s.heap d M B vs) (r : Value → Int) (hr : ∀ v ∈ vs, ∀ ns, TS.TupInts s.heap v ns → r v = rk M B ns) (Q : SortKind → Shared → Prop)
    (h : ∀ κ, TS.Cmp prog w A s κ (pairsOf vs) r → Q κ s) : wpAny (model prog w) A (keyKind' vs.toArray) Q E s := by
  obtain ⟨fs, k, hl, hi⟩ := firstsS hd vs x
  refine PySem.W.kat_kind (T := Value.type "int") k (by omega) (fun f hf => ?_) rfl (h _ fun p q hp hq Q' E' hQ => ?_)
  · obtain ⟨n, t, rfl⟩ := hi f hf
    exact .of_pure rfl
  · rw [pairsOf_toList] at hp hq
    have mp := (mem_zip_self hp).2
    have mq := (mem_zip_self hq).2
    obtain ⟨ns, tp, lp, bp⟩ := x _ mp
    obtain ⟨ms, tq, lq, bq⟩ := x _ mq
    rw [hr _ mp _ tp, hr _ mq _ tq] at hQ
    obtain ⟨a, xs, e1, ⟨o, ho, hc, n, hdt⟩, i⟩ := tp
    obtain ⟨a', ys, e2, ⟨o', ho', hc', n', hdt'⟩, i'⟩ := tq
    have l1 := i.length
    have l2 := i'.length
    rw [Array.length_toList] at l1 l2
    rw [e1, e2]
    refine PySem.W.kat_lt ho hdt ho' hdt' ?_
    rw [show decide (xs.size < ys.size) = false from decide_eq_false (by omega)]
    exact lexS 0 i i' (by omega) bp bq hQ
/-- list.sort of such a list -/
theorem sortS {a : Addr} {vs : List Value} {n d : Nat} {M B : Int} {P : PySem.Fin → Shared → Prop} (ho : s.heap.get? a = some (seqObj "list" vs.toArray n)) (h64 : vs.length < 64) (hd : 1 ≤ d) (x : Tups s.heap d M B vs)
    (r : Value → Int) (hr : ∀ v ∈ vs, ∀ ns, TS.TupInts s.heap v ns → r v = rk M B ns)
    (h : ∀ out : Array Value, out.toList.Perm vs → out.toList.Pairwise (fun u v => r u ≤ r v) → P (.done (.ret .none)) { s with heap := sortedHeap s.heap a vs out }) : wpAny (model prog w) A (Builtin.«list.sort» ⟨[.ref a], []⟩) P E s := by
  have keep : ∀ b o, s.heap.get? b = some o → o.cls = .type "tuple" → (TS.midHeap s.heap a vs).get? b = some o := fun b o e hc => by
    refine TS.midHeap_old (fun z => ?_) e
    rw [z, ho] at e
    have e2 := congrArg (fun o : Option Obj => o.map (·.cls)) e
    simp only [Option.map_some, hc, Option.some.injEq] at e2
    injection e2 with e3
    exact absurd e3 (by decide)
  refine SK.plain_sort (r := r) ho h64 (fun h2 Q hQ => kindS (s := { s with heap := TS.midHeap s.heap a vs }) hd h2 (x.keeps keep) r (fun v hv ns t => ?_) Q hQ) fun ps out h1 h2 h3 => ?_
  · obtain ⟨ms, t0, _⟩ := x v hv
    have e : ns = ms := t.ints.symm.trans (t0.keeps keep).ints
    rw [e]; exact hr v hv ms t0
  · have z := TS.out_rank h1 h2 h3
    exact h out z.1 z.2
/-- sorted(l) -/
theorem sortedS {l : Addr} {vs : List Value} {d : Nat} {M B : Int} {Q : Value → Shared → Prop} (hl : s.heap.IsList l vs.toArray) (h64 : vs.length < 64) (hd : 1 ≤ d) (x : Tups s.heap d M B vs)
    (h : ∀ out : Array Value, out.toList.Perm vs → out.toList.Pairwise (fun u v => rk M B (TS.intsOf s.heap u) ≤ rk M B (TS.intsOf s.heap v)) → Q (.ref (s.heap.objs.size + 1)) { s with heap := sortedAll s.heap vs out }) :
    wpAny (model prog w) A (call (.builtin "sorted") [.ref l]) Q E s := by
  refine Calls.call_function_entry kind_sorted plain_sorted entry_sorted (args_sorted1 _) ?_
  unfold Builtin.«sorted»
  refine wpAny_bind (m := checkCount "sorted" 1 1 _) (wpAny_pure (wpAny_bind (collect_list hl ?_ (by rw [sizeLine_eq]; omega))))
  refine wpAny_bind (wpAny_newList ?_ (by rw [sizeLine_eq]; omega))
  generalize hH : ((s.heap.push (seqObj "list" #[] 0)).update s.heap.objs.size (Obj.mapSeq (· ++ vs.toArray))) = Hm
  have hsz : Hm.objs.size = s.heap.objs.size + 1 := by rw [← hH, Heap.size_update, size_push']
  have hoL : (Hm.push (seqObj "list" vs.toArray 0)).get? (s.heap.objs.size + 1) = some (seqObj "list" vs.toArray 0) := by rw [← hsz]; exact Heap.get?_push_size _ rfl
  have keep : ∀ b o, s.heap.get? b = some o → o.cls = .type "tuple" → (Hm.push (seqObj "list" vs.toArray 0)).get? b = some o := fun b o q _ => by
    have hlt : b < s.heap.objs.size := Heap.lt_size q
    rw [Heap.get?_push_ne _ _ _ (by rw [hsz]; exact Nat.ne_of_lt (Nat.lt_succ_of_lt hlt)), ← hH, Heap.get?_update_ne _ _ _ _ (Nat.ne_of_lt hlt), Heap.get?_push_ne _ _ _ (Nat.ne_of_lt hlt)]
    exact q
  have key : wpAny (model prog w) A.in1 (call (.builtin "list.sort") [.ref (s.heap.objs.size + 1)]) (fun _ s' => Q (.ref (s.heap.objs.size + 1)) s') E { s with heap := Hm.push (seqObj "list" vs.toArray 0) } := by
    refine wpAny_call_entry slot_list_sort ⟨_, hoL, rfl⟩ entry_list_sort (sortS hoL h64 hd (x.keeps keep) (fun v => rk M B (TS.intsOf s.heap v)) (fun v hv ns t => ?_) fun out a1 a2 => ⟨_, rfl, ?_⟩) (args_list_sort _)
    · obtain ⟨ms, t0, _⟩ := x v hv
      have e : ns = ms := t.ints.symm.trans (t0.keeps keep).ints
      rw [e]
      show rk M B (TS.intsOf s.heap v) = rk M B ms
      rw [t0.ints]
    · have z := h out a1 a2
      unfold sortedAll at z
      rw [hH] at z
      exact z
  show wpAny _ _ _ _ _ { s with heap := Hm.push (seqObj "list" vs.toArray 0) }
  rw [hsz]
  exact wpAny_bind (wpAny_holding (wpAny_mono key (fun _ _ z => wpAny_pure ⟨_, rfl, z⟩) fun _ _ z => z))
/-- sorted of a set of tuples -/
theorem sortedSetS {a : Addr} {L : List (Addr × List Int)} {P : Program} {es : Array (Int × Value)} {ep : Nat} {t : SetTable} {Q : Value → Shared → Prop} (R : SetTR P w s.heap a L es ep t) (hh : A.handled = none)
    {d : Nat} {M B : Int} (hd : 1 ≤ d) (hB : ∀ p ∈ L, p.2.length = d ∧ Bs M B p.2)
    (hQ : ∀ s' p (out : Array Value) (c : Nat) (L' : List (Addr × List Int)), (∀ b o, s.heap.get? b = some o → s'.heap.get? b = some o) → s'.gens = s.gens → s'.os = s.os → s.heap.objs.size ≤ p →
      s'.heap.get? p = some (seqObj "list" out c) → out.toList = L'.map (fun q => Value.ref q.1) → L'.Perm L → L'.Pairwise (fun q r => rk M B q.2 ≤ rk M B r.2) → Q (.ref p) s') :
    wpAny (model P w) A (call (.builtin "sorted") [.ref a]) Q E s := by
  obtain ⟨o, ho, hex, hdt⟩ := R.ob
  have hfew := R.few
  have nL : L.Nodup := nodup_of_map R.nd
  have one : ∀ q ∈ L, ∀ r ∈ L, q.1 = r.1 → q = r := fun q hq r hr e => by
    have a1 := R.tup q hq
    rw [e] at a1
    exact Prod.ext e (a1.inj (R.tup r hr))
  -- addresses of rows give rows
  have rows : ∀ vs : List Value, (∀ v ∈ vs, ∃ q ∈ L, v = Value.ref q.1) → ∃ L1 : List (Addr × List Int), vs = L1.map (fun q => Value.ref q.1) ∧ ∀ q ∈ L1, q ∈ L := fun vs => by
    induction vs with
    | nil => exact fun _ => ⟨[], rfl, fun q hq => nomatch hq⟩
    | cons v vs ih =>
      intro hv
      obtain ⟨q, hq, e⟩ := hv v List.mem_cons_self
      obtain ⟨L1, e1, hs⟩ := ih fun u hu => hv u (List.mem_cons_of_mem _ hu)
      exact ⟨q :: L1, by rw [e, e1]; rfl, fun r hr => (List.mem_cons.mp hr).elim (fun z => z ▸ hq) (hs r)⟩
  have perm : ∀ L1 : List (Addr × List Int), (∀ q ∈ L1, q ∈ L) → (L1.map (fun q => Value.ref q.1)).Perm (L.map fun q => Value.ref q.1) → L1.Perm L := fun L1 hs pm => by
    have nr : (L.map fun q => Value.ref q.1).Nodup := List.pairwise_map.mpr (nL.imp_of_mem fun {q r} hq hr hne e => hne (one q hq r hr (by injection e)))
    refine (List.perm_ext_iff_of_nodup (nodup_of_map (pm.nodup_iff.mpr nr)) nL).mpr fun q => ⟨hs q, fun hq => ?_⟩
    obtain ⟨r, hr, e⟩ := List.mem_map.mp (pm.mem_iff.mpr (List.mem_map.mpr ⟨q, hq, rfl⟩))
    rw [← one r (hs r hr) q hq (by injection e)]
    exact hr
  refine Calls.call_function_entry kind_sorted plain_sorted entry_sorted (args_sorted1 _) ?_
  unfold Builtin.«sorted»
  refine wpAny_bind (m := checkCount "sorted" 1 1 _) (wpAny_pure (wpAny_bind (collect_set (A := A.in1) hh ⟨o, ho, hex.1, hdt⟩ R.fits (by rw [R.size]; unfold scanBound; omega) R.tab.ris R.led fun s1 vs k1 hz g1 o1 pm => ?_)))
  have hes : es.toList.map (·.2) = L.map fun q => Value.ref q.1 := by
    rw [R.rows]; unfold rowsOf; rw [List.map_map]; rfl
  rw [hes] at pm
  have hvl : vs.length < 64 := by rw [pm.length_eq, List.length_map]; exact hfew
  refine wpAny_bind (wpAny_newList ?_ (by rw [sizeLine_eq]; omega))
  have hoL : (s1.heap.push (seqObj "list" vs.toArray 0)).get? s1.heap.objs.size = some (seqObj "list" vs.toArray 0) := Heap.get?_push_size _ rfl
  have tk : ∀ q ∈ L, TS.TupInts (s1.heap.push (seqObj "list" vs.toArray 0)) (.ref q.1) q.2 := fun q hq => tupInts_of (P := P) (w := w) (isT_keep (R.tup q hq) fun b u e => Heap.get?_push_of_some _ (k1 b u e))
  have x : Tups (s1.heap.push (seqObj "list" vs.toArray 0)) d M B vs := fun v hv => by
    obtain ⟨q, hq, e⟩ := List.mem_map.mp (pm.mem_iff.mp hv)
    exact ⟨q.2, e ▸ tk q hq, hB q hq⟩
  have key : wpAny (model P w) A.in1 (call (.builtin "list.sort") [.ref s1.heap.objs.size]) (fun _ s' => Q (.ref s1.heap.objs.size) s') E { s1 with heap := s1.heap.push (seqObj "list" vs.toArray 0) } := by
    refine wpAny_call_entry slot_list_sort ⟨_, hoL, rfl⟩ entry_list_sort (sortS (s := { s1 with heap := s1.heap.push (seqObj "list" vs.toArray 0) }) hoL hvl hd x (fun v => rk M B (TS.intsOf (s1.heap.push (seqObj "list" vs.toArray 0)) v)) (fun v hv ns t => by rw [t.ints]) fun out a1 a2 => ⟨_, rfl, ?_⟩) (args_list_sort _)
    obtain ⟨c, hc⟩ := sortedHeap_at (vs := vs) (out := out) hoL
    obtain ⟨L', e', hs'⟩ := rows out.toList fun v hv => by
      obtain ⟨q, hq, e⟩ := List.mem_map.mp (pm.mem_iff.mp (a1.mem_iff.mp hv))
      exact ⟨q, hq, e.symm⟩
    refine hQ _ s1.heap.objs.size out c L' (fun b u e => ?_) g1 o1 hz hc e' (perm L' hs' (by rw [← e']; exact a1.trans pm)) ?_
    · have q := k1 b u e
      have hlt := Heap.lt_size q
      show (sortedHeap (s1.heap.push (seqObj "list" vs.toArray 0)) s1.heap.objs.size vs out).get? b = some u
      rw [sortedHeap_old (Nat.ne_of_lt hlt) (by rw [size_push']; exact Nat.lt_succ_of_lt hlt)]
      exact Heap.get?_push_of_some _ q
    · rw [e'] at a2
      refine (List.pairwise_map.mp a2).imp_of_mem fun {q r} hq hr hle => ?_
      rw [(tk q (hs' q hq)).ints, (tk r (hs' r hr)).ints] at hle
      exact hle
  exact wpAny_bind (wpAny_holding (wpAny_mono key (fun _ _ z => wpAny_pure ⟨_, rfl, z⟩) fun _ _ z => z))
end
theorem perm_lift {α β : Type} {f : α → β} : ∀ {m out : List β}, m.Perm out → ∀ L : List α, m = L.map f → ∃ L' : List α, L'.Perm L ∧ out = L'.map f := by
  intro m out h
  induction h with
  | nil => exact fun L e => ⟨L, .refl L, e⟩
  | cons x h ih =>
    intro L e
    cases L with
    | nil => cases e
    | cons a L =>
      rw [List.map_cons, List.cons.injEq] at e
      obtain ⟨L', p, q⟩ := ih L e.2
      exact ⟨a :: L', p.cons a, by rw [e.1, q]; rfl⟩
  | swap x y l =>
    intro L e
    match L, e with
    | a :: b :: L, e =>
      rw [List.map_cons, List.map_cons, List.cons.injEq, List.cons.injEq] at e
      exact ⟨b :: a :: L, .swap a b L, by rw [e.1, e.2.1, e.2.2]; rfl⟩
    | [], e => cases e
    | [a], e => simp at e
  | trans h1 h2 i1 i2 =>
    intro L e
    obtain ⟨L1, p1, q1⟩ := i1 L e
    obtain ⟨L2, p2, q2⟩ := i2 L1 q1
    exact ⟨L2, p2.trans p1, q2⟩
/-! set(l) of a list of whole numbers -/
abbrev newSet (w : World) : Obj := { cls := .type "set", dict := none, data := .set #[] 0 (.fresh 0 0 (!w.params.followText "set-order")) }
section
variable {P : Program} {w : World} {A : Around} {E : Value → Shared → Prop} {s : Shared}
set_option maxHeartbeats 16000000 in
theorem setInts {l : Addr} {items : Array Value} (ns : List Int) {Q : Value → Shared → Prop} (hh : A.handled = none) (hl : s.heap.IsList l items) (hit : IntsAre items.toList ns) (hb : ns.length + 1 < scanBound)
    (h : ∀ (h' : Heap) (tk c : Nat), SetR w h' s.heap.objs.size (fun j => decide (j ∈ ns)) c → c ≤ ns.length → (∀ b o, s.heap.get? b = some o → h'.get? b = some o) → Q (.ref s.heap.objs.size) { s with heap := h', toks := tk }) :
    wpAny (model P w) A (call (.type "set") [.ref l]) Q E s := by
  have hisz : items.size = ns.length := by have := hit.length; rwa [Array.length_toList] at this
  obtain ⟨c, tl, hmro⟩ := F.called_set.mro
  have hmade := F.called_set.made
  have hsub := F.called_set.sub
  refine wpAny_call (codeAny_of_tree (wpAny_pure ⟨Code.quiet_builtin _ (by decide +kernel), codeAny_builtin F.entry_type_call ?_⟩))
  rw [Around.under_plain (weight_type_call_type "set" [.ref l] []) rfl]
  have h1 := F.called_set.notType
  have h2 := F.called_set.canCreate
  have hct := F.typeCall_set_1 (.ref l)
  repeat (any_goals (first | assumption | wp_step))
  refine codeAny_mono (code_set_led1 (.ref l) (E := E) (Q₁ := fun obj s₁ => obj = .ref s.heap.objs.size ∧ s₁ = { s with heap := s.heap.push (newSet w) }) ⟨rfl, rfl⟩) fun r s₁ hr => ?_
  rcases r with e | fl
  · exact hr
  cases fl with
  | ret obj =>
    obtain ⟨rfl, rfl⟩ := hr
    have hS : (s.heap.push (newSet w)).get? s.heap.objs.size = some (newSet w) := Heap.get?_push_size _ rfl
    have hT : Shared.TypeIs { s with heap := s.heap.push (newSet w) } (.ref s.heap.objs.size) "set" := ⟨_, hS, rfl⟩
    have hli := F.called_set.init.lookup
    have hbi := F.called_set.init.bind (.ref s.heap.objs.size)
    repeat (any_goals (first | assumption | wp_step))
    refine codeAny_mono (codeAny_call_builtin (R := wants (fun r s₂ => r = .none ∧ ∃ h' tk c, s₂ = { s with heap := h', toks := tk } ∧ SetR w h' s.heap.objs.size (fun j => decide (j ∈ ns)) c ∧ c ≤ ns.length ∧ ∀ b o, s.heap.get? b = some o → h'.get? b = some o) E)
      F.called_set.init.plain F.entry_set_init (check_set_init_1 hT ?_)) fun r₂ s₂ hr₂ => ?_
    · obtain ⟨⟨ocls, odict, odata, oslots⟩, hol, hcl, nl, hdl⟩ := hl
      simp only at hcl hdl
      subst hcl; subst hdl
      have hol' := Heap.get?_push_of_some (newSet w) hol
      have hsls := F.sub_list_set
      have hslf := F.sub_list_frozenset
      have hne : (Value.type "list" == Value.type "dict") = false := by decide
      have hl1 : (s.heap.push (newSet w)).IsList l items := ⟨_, hol', rfl, nl, rfl⟩
      unfold Builtin.«set.__init__» noKeywords Builtin.Frozenset.updateFrom
      generalize hPI : pyIter = PI
      wp_walk
      subst hPI
      refine wpAny_pyIter_list hl1 (wpAny_bind (wpAny_runValue ?_))
      have hlS : l < s.heap.objs.size := Heap.lt_size hol
      have hz : (s.heap.push (newSet w)).objs.size = s.heap.objs.size + 1 := Heap.size_push ..
      have hneI : l ≠ (s.heap.push (newSet w)).objs.size := by rw [hz]; exact Nat.ne_of_lt (Nat.lt_succ_of_lt hlS)
      have hSf : s.heap.objs.size ∉ [(s.heap.push (newSet w)).objs.size, l] := by
        rw [hz]
        intro hm
        rcases List.mem_cons.mp hm with e | hm
        · exact Nat.ne_of_lt (Nat.lt_succ_self _) e
        · exact Nat.ne_of_gt hlS (List.mem_singleton.mp hm)
      have hval : ∀ (i : Nat) (v : Value), items[i]? = some v → ∃ k t, ns[i]? = some k ∧ v = .int k t := fun i v hv => by
        have hi : i < ns.length := by rw [← hisz]; exact (Array.getElem?_eq_some_iff.mp hv).1
        obtain ⟨t, e⟩ := IntsAre.int_at hit i v (by rw [Array.getElem?_toList]; exact hv)
        refine ⟨ns[i], t, List.getElem?_eq_getElem hi, ?_⟩
        rw [e, List.getD_eq_getElem?_getD, List.getElem?_eq_getElem hi]; rfl
      refine set_update_ints ((Walks.list (show A.in1.in1.in1.handled = none by simp [hh]) _ l hneI items).toS) s.heap.objs.size hSf ns hisz hb hval (items.size - 0) 0 _ (by omega) (Nat.zero_le _)
        ⟨⟨_, Heap.get?_push_size _ rfl, rfl, rfl⟩, hl1.push _⟩ ⟨0, Nat.le_refl 0, setR_new_at (Heap.get?_push_of_some _ hS)⟩ fun s' c' hm hc' hS' => ?_
      obtain ⟨h', g2, d', tk', os'⟩ := s'
      obtain rfl : g2 = s.gens := hm.gens
      obtain rfl : d' = s.drawn := hm.drawn
      obtain rfl : os' = s.os := hm.os
      rw [hisz] at hc'
      refine wpAny_pure (wpAny_pure ⟨rfl, h', tk', c', rfl, hS', hc', fun b o e => ?_⟩)
      have hb0 := Heap.lt_size e
      refine hm.heap b o (fun z => ?_) (Heap.get?_push_of_some _ (Heap.get?_push_of_some _ e))
      rcases List.mem_cons.mp z with z | z
      · exact Nat.ne_of_lt hb0 z
      · rw [List.mem_singleton.mp z, hz] at hb0
        exact absurd hb0 (Nat.not_lt.mpr (Nat.le_succ _))
    · rcases r₂ with e | fl₂
      · exact hr₂
      cases fl₂ with
      | ret r =>
        obtain ⟨rfl, h', tk, c2, rfl, hS', hc2, hk'⟩ := hr₂
        repeat (any_goals (first | assumption | wp_step))
        exact h _ _ _ hS' hc2 hk'
      | _ => exact hr₂.elim
  | _ => exact hr.elim
end
section
variable {X : Cx}
/-- sorted(l) of a list of tuples, as a rule -/
theorem cr_sortS {d : Nat} {M B : Int} (hd : 1 ≤ d) : CallR X (.builtin "sorted") (fun vs H Q => ∃ (a : Addr) (L : List (Addr × List Int)), vs = [V.ref a] ∧ SqL X.K H a (L.map fun p => V.ref p.1) ∧ L.length < 64 ∧ (∀ p ∈ L, SqT X.K H p.1 (p.2.map V.int) ∧ p.2.length = d ∧ Bs M B p.2) ∧
    ∀ (L' : List (Addr × List Int)) (p : Addr), L'.Perm L → L'.Pairwise (fun q r => rk M B q.2 ≤ rk M B r.2) → H p = none → Q (.ref p) (upd H p (.lst (L'.map fun q => V.ref q.1)))) := by
  intro pins s σ H vs us Q I r h
  obtain ⟨a, L, rfl, hs, hl, hL, q⟩ := h
  obtain ⟨its, rv, pl, hz⟩ := I.list hs
  have ei : its = L.map fun p => Value.ref p.1 := refs_of_vals rv
  subst ei
  have raw : ∀ p ∈ L, TS.TupInts s.heap (.ref p.1) p.2 := fun p hp => tupI_raw I (hL p hp).1
  rw [Vals.ref1 r]
  refine sortedS (d := d) (M := M) (B := B) pl.isList (by simpa using hl) hd (fun v hv => ?_) fun out p1 p2 => ?_
  · obtain ⟨p, hp, rfl⟩ := List.mem_map.mp hv
    exact ⟨p.2, raw p hp, (hL p hp).2⟩
  · obtain ⟨ep, he⟩ := PyProof.Rows.sortedAll_at s.heap (L.map fun p => Value.ref p.1) out
    obtain ⟨L', pL, e'⟩ := perm_lift p1.symm L rfl
    have hlen : (L'.map fun q => V.ref q.1).length ≤ sizeLine := by rw [List.length_map, pL.length_eq, sizeLine_eq]; omega
    refine ⟨.ref _, upd H (s.heap.objs.size + 1) (.lst (L'.map fun q => V.ref q.1)), I.laid (t' := s.toks) (fun _ _ => PyProof.Rows.sortedAll_old) (Nat.le_succ _) ⟨hlen, out.toList, ep, by rw [e']; exact vals_of_refs L', he⟩, rfl, q L' _ pL ?_ (I.hok.fresh (Nat.le_succ _))⟩
    rw [e'] at p2
    refine (List.pairwise_map.mp p2).imp_of_mem fun {q r} hq hr hle => ?_
    rw [(raw q (pL.subset hq)).ints, (raw r (pL.subset hr)).ints] at hle
    exact hle
/-- sorted(set(l)), as a rule for the set -/
theorem cr_sortSetS {d : Nat} {M B : Int} (hc : X.calm = true) (hd : 1 ≤ d) : CallR X (.builtin "sorted") (fun vs H Q => ∃ (a : Addr) (L : List (Addr × List Int)), vs = [V.ref a] ∧ H a = some (SetTO X.prog X.w a L) ∧ (∀ p ∈ L, SqT X.K H p.1 (p.2.map V.int) ∧ p.2.length = d ∧ Bs M B p.2) ∧
    ∀ (L' : List (Addr × List Int)) (p : Addr), L'.Perm L → (L'.map (·.2)).Nodup → L'.length < 64 → L'.Pairwise (fun q r => rk M B q.2 ≤ rk M B r.2) → H p = none → Q (.ref p) (upd H p (.lst (L'.map fun q => V.ref q.1)))) := by
  intro pins s σ H vs us Q I r h
  obtain ⟨a, L, rfl, ha, hL, q⟩ := h
  obtain ⟨es, ep, t, R⟩ := (show SetT0 X.prog X.w s.heap a L from (I.hok a _ ha).1).full fun p hp => I.isT (hL p hp).1
  rw [Vals.ref1 r]
  refine sortedSetS (d := d) (M := M) (B := B) R (I.ok.hd hc) hd (fun p hp => (hL p hp).2) fun s' p out c L' kp g o hp hg hout pm pw => ?_
  have few : L'.length < 64 := by rw [pm.length_eq]; exact R.few
  have free : H p = none := I.hok.fresh hp
  have J : Inv X pins σ (upd H p (.lst (L'.map fun q => V.ref q.1))) s' :=
    I.call' (ch := []) o (Un.laid kp hp free) (I.hok.laid kp hp ⟨by rw [List.length_map, sizeLine_eq]; omega, out.toList, c, by rw [hout]; exact vals_of_refs L', hg⟩) (by rw [g]; exact I.bare) (fun _ z => nomatch z)
  exact ⟨.ref p, _, J, rfl, q L' p pm ((pm.map (·.2)).nodup_iff.mpr R.nd) few pw free⟩
/-- set(l) of whole numbers -/
theorem cr_setI (hc : X.calm = true) : CallR X (.type "set") (fun vs H Q => ∃ (a : Addr) (ns : List Int), vs = [V.ref a] ∧ SqL X.K H a (ns.map V.int) ∧ ns.length < 60 ∧ ∀ p n, n ≤ ns.length → H p = none → Q (.ref p) (upd H p (SetO X.w p (fun i => decide (i ∈ ns)) n))) := by
  intro pins s σ H vs us Q I r h
  obtain ⟨a, ns, rfl, hs, hl, q⟩ := h
  rw [Vals.ref1 r]
  obtain ⟨its, rv, pl, hz⟩ := I.list hs
  have hn : H s.heap.objs.size = none := I.hok.fresh (Nat.le_refl _)
  refine setInts ns (I.ok.hd hc) pl.isList (by simpa using rv.ints) (by unfold scanBound; omega) fun h' tk c R hcn k => ?_
  exact ⟨.ref s.heap.objs.size, upd H s.heap.objs.size (SetO X.w s.heap.objs.size (fun j => decide (j ∈ ns)) c), I.laid (t' := tk) k (Nat.le_refl _) (setO_new R), rfl, q _ c hcn hn⟩
end
end G.Sg
end
section
set_option Elab.async false
set_option linter.all false
set_option maxRecDepth 100000
set_option maxHeartbeats 4000000
/-! G6: built-ins by name. -/
namespace G
open PySem L2
variable {X : Cx} {F : Fr} {en : Env} {st : Sto} {P : Program} {w : World} {K : PySem.W.Frag} {mg : Str → Option Value} {base : Heap} {N Gs : List Str} {Vi M : List Nat} {k : Nat}

/-- one argument -/
theorem ea_one {e : Expr} {Q : D → Sto → Prop} (q : EE X F en e st Q) (he : starEach [e] X.env = (false, eval e X.env) :: starEach [] X.env := by rfl) : EA X F en [e] st fun ds st1 => ∃ d, ds = [d] ∧ Q d st1 :=
  ea_cons (EE.intro fun σ H kk s b h => q.use s b fun d st1 v H1 q1 a1 t1 at1 => h d st1 v H1 (ea_nil ⟨d, rfl, q1⟩) a1 t1 at1) he
theorem ats1 {K : PySem.W.Frag} {H : Hp} {vs : List V} {d : D} (a : Ats K H vs [d]) : ∃ v, vs = [v] ∧ At K H v d := by
  obtain ⟨v, r, rfl, h1, h2⟩ := ats_cons.mp a
  obtain rfl := ats_nil.mp h2
  exact ⟨v, rfl, h1⟩
/-- a built-in function, a built-in type, of one argument -/
theorem ee_b1 (c : Cg P w K mg base N Gs Vi M k X) {x : Str} {i : Nat} {id : String} {e : Expr} {p pos : Pos} {r : List V → Hp → VK → Prop} {Q : D → Sto → Prop} {Rr : D → Sto → Prop} (hc : CallR X (.builtin id) r) (hg : Gs[i]? = some x) (hm : mg x = none) (hv : bootBuiltins x = some (.builtin id))
    (hr : ∀ d st' v H k, Rr d st' → SOk X.K F st' H → At X.K H v d → (∀ d st'' v H', Q d st'' → SOk X.K F st'' H' → TExt H H' → At X.K H' v d → k v H') → r [v] H k)
    (q : EE X F en e st Rr) (he : starEach [e] X.env = (false, eval e X.env) :: starEach [] X.env) : EE X F en (.Call (.Name x p) [e] [] pos) st Q :=
  ee_callB c hc hg hm hv (Rr := fun ds st' => ∃ d, ds = [d] ∧ Rr d st') (fun ds st' vs H k ⟨d, e1, q1⟩ s a h => by
    subst e1
    obtain ⟨v, rfl, ha⟩ := ats1 a
    exact hr d st' v H k q1 s ha h) (ea_one q he) he rfl
theorem ee_t1 (c : Cg P w K mg base N Gs Vi M k X) {x : Str} {i : Nat} {id : String} {e : Expr} {p pos : Pos} {r : List V → Hp → VK → Prop} {Q : D → Sto → Prop} {Rr : D → Sto → Prop} (hc : CallR X (.type id) r) (hg : Gs[i]? = some x) (hm : mg x = none) (hv : bootBuiltins x = some (.type id))
    (hr : ∀ d st' v H k, Rr d st' → SOk X.K F st' H → At X.K H v d → (∀ d st'' v H', Q d st'' → SOk X.K F st'' H' → TExt H H' → At X.K H' v d → k v H') → r [v] H k)
    (q : EE X F en e st Rr) (he : starEach [e] X.env = (false, eval e X.env) :: starEach [] X.env) : EE X F en (.Call (.Name x p) [e] [] pos) st Q :=
  ee_callTy c hc hg hm hv (Rr := fun ds st' => ∃ d, ds = [d] ∧ Rr d st') (fun ds st' vs H k ⟨d, e1, q1⟩ s a h => by
    subst e1
    obtain ⟨v, rfl, ha⟩ := ats1 a
    exact hr d st' v H k q1 s ha h) (ea_one q he) he rfl
/-! ### len -/
theorem ee_lenT (c : Cg P w K mg base N Gs Vi M k X) {i : Nat} {e : Expr} {p pos : Pos} {Q : D → Sto → Prop} (hg : Gs[i]? = some "len") (hm : mg "len" = none) (q : EE X F en e st fun d st1 => ∃ ds, d = .tup ds ∧ Q (.int (ds.length : Nat)) st1)
    (he : starEach [e] X.env = (false, eval e X.env) :: starEach [] X.env := by rfl) : EE X F en (.Call (.Name "len" p) [e] [] pos) st Q :=
  ee_b1 c call_len_seq hg hm boot_len (fun d st' v H k ⟨ds, e1, q1⟩ s a h => by
    subst e1
    obtain ⟨p, xs, rfl, h1, h2⟩ := at_tup.mp a
    exact ⟨p, xs, rfl, .inr h1, by rw [h2.length]; exact h _ _ _ _ q1 s (.refl H) (at_int.mpr rfl)⟩) q he
theorem ee_lenL (c : Cg P w K mg base N Gs Vi M k X) {i : Nat} {e : Expr} {p pos : Pos} {Q : D → Sto → Prop} (hg : Gs[i]? = some "len") (hm : mg "len" = none) (q : EE X F en e st fun d st1 => ∃ p ds, d = .ref p ∧ Has st1 p (.lst ds) ∧ Q (.int (ds.length : Nat)) st1)
    (he : starEach [e] X.env = (false, eval e X.env) :: starEach [] X.env := by rfl) : EE X F en (.Call (.Name "len" p) [e] [] pos) st Q :=
  ee_b1 c call_len_seq hg hm boot_len (fun d st' v H k ⟨p, ds, e1, hh, q1⟩ s a h => by
    subst e1
    obtain ⟨xs, h1, h2⟩ := s.has hh
    exact ⟨p, xs, by rw [at_ref.mp a], .inl (.inl h1), by rw [h2.length]; exact h _ _ _ _ q1 s (.refl H) (at_int.mpr rfl)⟩) q he
theorem ee_lenS (c : Cg P w K mg base N Gs Vi M k X) {i : Nat} {e : Expr} {p pos : Pos} {Q : D → Sto → Prop} (hg : Gs[i]? = some "len") (hm : mg "len" = none) (q : EE X F en e st fun d st1 => ∃ ns, d = .scr ns ∧ Q (.int (ns.length : Nat)) st1)
    (he : starEach [e] X.env = (false, eval e X.env) :: starEach [] X.env := by rfl) : EE X F en (.Call (.Name "len" p) [e] [] pos) st Q :=
  ee_b1 c call_len_seq hg hm boot_len (fun d st' v H k ⟨ns, e1, q1⟩ s a h => by
    subst e1
    unfold At at a
    obtain ⟨p, rfl, hp⟩ := a
    refine ⟨p, ns.map V.int, rfl, .inl ?_, by rw [List.length_map]; exact h _ _ _ _ q1 s (.refl H) (at_int.mpr rfl)⟩
    rcases hp with ⟨o, hp⟩ | hp
    · exact .inl (.inr ⟨o, hp⟩)
    · rcases hp with (hp | ⟨o, hp⟩) | hp
      · cases hp
      · cases hp
      · exact .inr hp) q he
/-! ### all -/
theorem ee_all (c : Cg P w K mg base N Gs Vi M k X) {i : Nat} {e : Expr} {p pos : Pos} {Q : D → Sto → Prop} (hg : Gs[i]? = some "all") (hm : mg "all" = none) (q : EE X F en e st fun d st1 => ∃ (p : Addr) (bs : List Bool), d = .ref p ∧ Has st1 p (.lst (bs.map D.bl)) ∧ Q (.bl (bs.all id)) st1)
    (he : starEach [e] X.env = (false, eval e X.env) :: starEach [] X.env := by rfl) : EE X F en (.Call (.Name "all" p) [e] [] pos) st Q :=
  ee_b1 c (cr_all c.calm) hg hm (by decide +kernel) (fun d st' v H k ⟨p, bs, e1, hh, q1⟩ s a h => by
    subst e1
    obtain ⟨xs, h1, h2⟩ := s.has hh
    rw [h2.bls] at h1
    exact ⟨p, bs, by rw [at_ref.mp a], .inl h1, h _ _ _ _ q1 s (.refl H) (at_bl.mpr rfl)⟩) q he
/-! ### tuple, list -/
theorem ee_tupleL (c : Cg P w K mg base N Gs Vi M k X) {i : Nat} {e : Expr} {p pos : Pos} {Q : D → Sto → Prop} (hg : Gs[i]? = some "tuple") (hm : mg "tuple" = none) (q : EE X F en e st fun d st1 => ∃ p ds, d = .ref p ∧ Has st1 p (.lst ds) ∧ Q (.tup ds) st1)
    (he : starEach [e] X.env = (false, eval e X.env) :: starEach [] X.env := by rfl) : EE X F en (.Call (.Name "tuple" p) [e] [] pos) st Q :=
  ee_t1 c call_tuple_of hg hm (by decide +kernel) (fun d st' v H k ⟨p, ds, e1, hh, q1⟩ s a h => by
    subst e1
    obtain ⟨xs, h1, h2⟩ := s.has hh
    exact ⟨p, xs, by rw [at_ref.mp a], .inl ⟨.inl h1, fun r hr => h _ _ _ _ q1 (s.alloc hr) (.laid hr) (at_tup.mpr ⟨r, xs, rfl, SqT.of upd_same, h2.mono (.laid hr)⟩)⟩⟩) q he
theorem ee_listT (c : Cg P w K mg base N Gs Vi M k X) {i : Nat} {e : Expr} {p pos : Pos} {Q : D → Sto → Prop} (hg : Gs[i]? = some "list") (hm : mg "list" = none) (q : EE X F en e st fun d st1 => ∃ ds, d = .tup ds ∧ ∀ r, Q (.ref r) (⟨r, true, .lst ds⟩ :: st1))
    (he : starEach [e] X.env = (false, eval e X.env) :: starEach [] X.env := by rfl) : EE X F en (.Call (.Name "list" p) [e] [] pos) st Q :=
  ee_t1 c call_list_of hg hm (by decide +kernel) (fun d st' v H k ⟨ds, e1, q1⟩ s a h => by
    subst e1
    obtain ⟨p, xs, rfl, h1, h2⟩ := at_tup.mp a
    exact ⟨p, xs, rfl, .inr h1, fun r hr => h _ _ _ _ (q1 r) (s.new hr ⟨xs, upd_same, h2.mono (.laid hr)⟩) (.laid hr) (at_ref.mpr rfl)⟩) q he
/-- list(d) of a dict that may be written: its keys -/
theorem ee_listD (c : Cg P w K mg base N Gs Vi M k X) {i : Nat} {e : Expr} {p pos : Pos} {Q : D → Sto → Prop} (hg : Gs[i]? = some "list") (hm : mg "list" = none) (q : EE X F en e st fun d st1 => ∃ p kvs st2, d = .ref p ∧ Put st1 p (.dic kvs) (.dic kvs) st2 ∧ ∀ r, Q (.ref r) (⟨r, true, .lst (kvs.map fun kv => D.int kv.1)⟩ :: st1))
    (he : starEach [e] X.env = (false, eval e X.env) :: starEach [] X.env := by rfl) : EE X F en (.Call (.Name "list" p) [e] [] pos) st Q :=
  ee_t1 c (call_list_dK c.calm) hg hm (by decide +kernel) (fun d st' v H k ⟨p, kvs, st2, e1, hp, q1⟩ s a h => by
    subst e1
    obtain ⟨ks, h1, h2⟩ := s.objs _ hp.mem
    refine ⟨p, ks, by rw [at_ref.mp a], h1, fun r hr => ?_⟩
    have e : (ks.map fun kv => kV kv.1) = (kvs.map (·.1)).map V.int := by
      have := congrArg (List.map kV) h2.1
      simpa [List.map_map, Function.comp_def, kV] using this
    rw [e]
    have z : (kvs.map fun kv => D.int kv.1) = (kvs.map (·.1)).map D.int := by rw [List.map_map]; rfl
    refine h _ _ _ _ (q1 r) (s.new hr ⟨_, upd_same, ?_⟩) (.laid hr) (at_ref.mpr rfl)
    rw [z]; exact .of_ints _) q he
/-! ### max, min, int -/
theorem ee_max (c : Cg P w K mg base N Gs Vi M k X) {i : Nat} {a b : Expr} {p pos : Pos} {Q : D → Sto → Prop} (hg : Gs[i]? = some "max") (hm : mg "max" = none) (q : EA X F en [a, b] st fun ds st1 => ∃ m n, ds = [.int m, .int n] ∧ Q (.int (max m n)) st1)
    (he : starEach [a, b] X.env = (false, eval a X.env) :: starEach [b] X.env := by rfl) (hpl : (backTo pos (starEach [b] X.env)).any (·.1) = false := by rfl) : EE X F en (.Call (.Name "max" p) [a, b] [] pos) st Q :=
  ee_callB c (call_max2 c.calm) hg hm (by decide +kernel) (fun ds st' vs H k ⟨m, n, e1, q1⟩ s ha h => by
    subst e1
    obtain ⟨v, r, rfl, h1, h2⟩ := ats_cons.mp ha
    obtain ⟨u, rfl, h3⟩ := ats1 h2
    refine ⟨m, n, by rw [at_int.mp h1, at_int.mp h3], ?_⟩
    have z : (if n > m then n else m) = max m n := by rw [Int.max_def]; split <;> split <;> omega
    rw [z]
    exact h _ _ _ _ q1 s (.refl H) (at_int.mpr rfl)) q he hpl
theorem ee_min (c : Cg P w K mg base N Gs Vi M k X) {i : Nat} {a b : Expr} {p pos : Pos} {Q : D → Sto → Prop} (hg : Gs[i]? = some "min") (hm : mg "min" = none) (q : EA X F en [a, b] st fun ds st1 => ∃ m n, ds = [.int m, .int n] ∧ Q (.int (min m n)) st1)
    (he : starEach [a, b] X.env = (false, eval a X.env) :: starEach [b] X.env := by rfl) (hpl : (backTo pos (starEach [b] X.env)).any (·.1) = false := by rfl) : EE X F en (.Call (.Name "min" p) [a, b] [] pos) st Q :=
  ee_callB c (call_min2 c.calm) hg hm (by decide +kernel) (fun ds st' vs H k ⟨m, n, e1, q1⟩ s ha h => by
    subst e1
    obtain ⟨v, r, rfl, h1, h2⟩ := ats_cons.mp ha
    obtain ⟨u, rfl, h3⟩ := ats1 h2
    refine ⟨m, n, by rw [at_int.mp h1, at_int.mp h3], ?_⟩
    have z : (if n < m then n else m) = min m n := by rw [Int.min_def]; split <;> split <;> omega
    rw [z]
    exact h _ _ _ _ q1 s (.refl H) (at_int.mpr rfl)) q he hpl
theorem ee_intB (c : Cg P w K mg base N Gs Vi M k X) {i : Nat} {e : Expr} {p pos : Pos} {Q : D → Sto → Prop} (hg : Gs[i]? = some "int") (hm : mg "int" = none) (q : EE X F en e st fun d st1 => ∃ b, d = .bl b ∧ Q (.int (if b then 1 else 0)) st1)
    (he : starEach [e] X.env = (false, eval e X.env) :: starEach [] X.env := by rfl) : EE X F en (.Call (.Name "int" p) [e] [] pos) st Q :=
  ee_t1 c call_int1 hg hm (by decide +kernel) (fun d st' v H k ⟨b, e1, q1⟩ s a h => by
    subst e1
    exact .inr ⟨b, by rw [at_bl.mp a], h _ _ _ _ q1 s (.refl H) (at_int.mpr rfl)⟩) q he
/-! ### isinstance -/
def isiD : D → String → Option Bool
  | .int _, T => kitB "int" T
  | .bl _, T => kitB "bool" T
  | .str _, T => kitB "str" T
  | .tup _, T => kitB "tuple" T
  | _, _ => none
theorem ee_isi (c : Cg P w K mg base N Gs Vi M k X) {i j : Nat} {e : Expr} {T : Str} {Tn : String} {p p2 pos : Pos} {Q : D → Sto → Prop} (hg : Gs[i]? = some "isinstance") (hm : mg "isinstance" = none) (hT : Gs[j]? = some T) (hmT : mg T = none) (hb : bootBuiltins T = some (.type Tn))
    (q : EE X F en e st fun d st1 => ∃ b, isiD d Tn = some b ∧ Q (.bl b) st1)
    (he : starEach [e, .Name T p2] X.env = (false, eval e X.env) :: starEach [.Name T p2] X.env := by rfl) (he2 : starEach [.Name T p2] X.env = (false, eval (.Name T p2) X.env) :: starEach [] X.env := by rfl) (hpl : (backTo pos (starEach [.Name T p2] X.env)).any (·.1) = false := by rfl) :
    EE X F en (.Call (.Name "isinstance" p) [e, .Name T p2] [] pos) st Q := by
  obtain ⟨g1, g2, g3⟩ := c.gl i _ hg
  obtain ⟨t1, t2, t3⟩ := c.gl j _ hT
  refine .intro fun σ H kk s b h => ⟨_, pe_callB call_isi g1 (by rw [c.emg]; exact hm) (by decide +kernel) (pa_cons pe_any (pa_cons (pe_bltn (v := .ty Tn) t1 (by rw [c.emg]; exact hmT) hb rfl t3 t2) pa_nil he2) he) g3 g2 he hpl, q.use s b fun d st1 v H1 ⟨bb, hi, q1⟩ a1 t1 at1 => ?_⟩
  have fin : ∀ t : String, TyX X.K H1 v (.type t) → kitB t Tn = some bb → rIsi X.K [v, .ty Tn] H1 kk := fun t ty kb => ⟨v, .ty Tn, .type t, .type Tn, bb, rfl, .ty Tn, ty, kit_ty kb, h _ _ _ _ q1 a1 t1 (at_bl.mpr rfl)⟩
  cases d with
  | int n => exact fin "int" (.base (by rw [at_int.mp at1]; exact .int n)) hi
  | bl n => exact fin "bool" (.base (by rw [at_bl.mp at1]; exact .bl n)) hi
  | str n => exact fin "str" (.base (by rw [at_str.mp at1]; exact .str n)) hi
  | tup ds =>
    obtain ⟨p, xs, rfl, h1, h2⟩ := at_tup.mp at1
    refine fin "tuple" ?_ hi
    rcases h1 with (h1 | ⟨o, h1⟩) | ⟨o, its, n, h1, h3, _⟩
    · exact .base (.tup h1)
    · exact .fTuple h1
    · exact .kTuple h1 h3
  | non => cases hi
  | ref _ => cases hi
  | scr _ => cases hi
  | any => cases hi

/-! ### sorted -/
def tI (ns : List Int) : D := .tup (ns.map D.int)
/-- the order of tuples of one length -/
def lle : List Int → List Int → Prop
  | x :: xs, y :: ys => x < y ∨ (x = y ∧ lle xs ys)
  | _, _ => True
theorem rk_lle {M B : Int} : ∀ {ns ms : List Int}, ns.length = ms.length → Sg.Bs M B ns → Sg.Bs M B ms → Sg.rk M B ns ≤ Sg.rk M B ms → lle ns ms
  | [], _, _, _, _, _ => by simp [lle]
  | x :: xs, [], h, _, _, _ => by simp at h
  | x :: xs, y :: ys, hl, h1, h2, h => by
    have l2 : xs.length = ys.length := by simpa using hl
    unfold lle
    rcases Int.lt_trichotomy x y with c | c | c
    · exact .inl c
    · subst c
      refine .inr ⟨rfl, rk_lle l2 h1.tl h2.tl ?_⟩
      have z := (Sg.rk_eq (M := M) (B := B) (p := x) l2.symm)
      rcases Int.lt_or_le (Sg.rk M B ys) (Sg.rk M B xs) with g | g
      · have := z.mpr g
        omega
      · exact g
    · have := Sg.rk_lt (M := M) (B := B) l2.symm h2.tl h1.tl c
      omega
theorem bnd1 : ∀ (ns : List Int), ∃ M : Int, 0 ≤ M ∧ ∀ m ∈ ns, -M ≤ m ∧ m < M
  | [] => ⟨0, Int.le_refl _, fun m h => nomatch h⟩
  | n :: ns => by
    obtain ⟨M, h0, h⟩ := bnd1 ns
    refine ⟨M + n.natAbs + 1, by omega, fun m hm => ?_⟩
    rcases List.mem_cons.mp hm with rfl | hm
    · omega
    · have := h m hm
      omega
theorem bnd2 : ∀ (nss : List (List Int)), ∃ M : Int, ∀ ns ∈ nss, Sg.Bs M (2 * M) ns
  | nss => by
    obtain ⟨M, h0, h⟩ := bnd1 nss.flatten
    exact ⟨M, fun ns hn => Sg.bs_of fun m hm => by
      have := h m (List.mem_flatten.mpr ⟨ns, hn, hm⟩)
      omega⟩
/-- addresses of a list of tuples of ints -/
theorem ats_tI {K : PySem.W.Frag} {H : Hp} : ∀ {nss : List (List Int)} {xs : List V}, Ats K H xs (nss.map tI) → ∃ L : List (Addr × List Int), xs = L.map (fun p => V.ref p.1) ∧ L.map (·.2) = nss ∧ ∀ p ∈ L, SqT K H p.1 (p.2.map V.int)
  | [], xs, h => ⟨[], ats_nil.mp h, rfl, fun p hp => nomatch hp⟩
  | ns :: nss, xs, h => by
    obtain ⟨v, r, rfl, h1, h2⟩ := ats_cons.mp (show Ats K H xs (tI ns :: nss.map tI) from h)
    obtain ⟨L, e1, e2, e3⟩ := ats_tI h2
    obtain ⟨p, ys, rfl, h3, h4⟩ := at_tup.mp h1
    rw [h4.ints] at h3
    refine ⟨(p, ns) :: L, by rw [e1]; rfl, by rw [← e2]; rfl, fun q hq => ?_⟩
    rcases List.mem_cons.mp hq with rfl | hq
    · exact h3
    · exact e3 q hq
theorem ats_of_tI {K : PySem.W.Frag} {H : Hp} : ∀ {L : List (Addr × List Int)}, (∀ p ∈ L, SqT K H p.1 (p.2.map V.int)) → Ats K H (L.map fun p => V.ref p.1) ((L.map (·.2)).map tI)
  | [], _ => ats_nil.mpr rfl
  | p :: L, h => ats_cons.mpr ⟨_, _, rfl, at_tup.mpr ⟨p.1, _, rfl, h p List.mem_cons_self, .of_ints _⟩, ats_of_tI fun q hq => h q (List.mem_cons_of_mem _ hq)⟩
/-- sorted(l), l a list of tuples of d ints -/
theorem ee_sortT (c : Cg P w K mg base N Gs Vi M k X) {i : Nat} {e : Expr} {p pos : Pos} {Q : D → Sto → Prop} (hg : Gs[i]? = some "sorted") (hm : mg "sorted" = none) (q : EE X F en e st fun d st1 => ∃ (p : Addr) (nss : List (List Int)) (n : Nat), d = .ref p ∧ Has st1 p (.lst (nss.map tI)) ∧ nss.length < 64 ∧ 1 ≤ n ∧ (∀ ns ∈ nss, ns.length = n) ∧
      ∀ (r : Addr) (nss' : List (List Int)), nss'.Perm nss → nss'.Pairwise lle → Q (.ref r) (⟨r, true, .lst (nss'.map tI)⟩ :: st1))
    (he : starEach [e] X.env = (false, eval e X.env) :: starEach [] X.env := by rfl) : EE X F en (.Call (.Name "sorted" p) [e] [] pos) st Q := by
  obtain ⟨g1, g2, g3⟩ := c.gl i _ hg
  -- the dimension and the bounds are those of the very list
  refine .intro fun σ H kk s b h => ?_
  have R : CallR X (.builtin "sorted") (fun vs H Q => ∃ (d : Nat) (M B : Int), 1 ≤ d ∧ ∃ (a : Addr) (L : List (Addr × List Int)), vs = [V.ref a] ∧ SqL X.K H a (L.map fun p => V.ref p.1) ∧ L.length < 64 ∧ (∀ p ∈ L, SqT X.K H p.1 (p.2.map V.int) ∧ p.2.length = d ∧ Sg.Bs M B p.2) ∧
      ∀ (L' : List (Addr × List Int)) (p : Addr), L'.Perm L → L'.Pairwise (fun q r => Sg.rk M B q.2 ≤ Sg.rk M B r.2) → H p = none → Q (.ref p) (upd H p (.lst (L'.map fun q => V.ref q.1)))) := by
    intro pins s σ H vs us Q I r ⟨d, M, B, hd, z⟩
    exact Sg.cr_sortS hd pins s σ H vs us Q I r z
  refine ⟨_, pe_callB R g1 (by rw [c.emg]; exact hm) (by decide +kernel) (pa_cons pe_any pa_nil he) g3 g2 he rfl, q.use s b fun d st1 v H1 ⟨p, nss, n, e1, hh, hlen, hn, hdim, q1⟩ a1 t1 at1 => ?_⟩
  subst e1
  obtain ⟨xs, h1, h2⟩ := a1.has hh
  obtain ⟨L, rfl, rfl, hL⟩ := ats_tI h2
  obtain ⟨M, hM⟩ := bnd2 (L.map (·.2))
  rw [List.length_map] at hlen
  have mem : ∀ p ∈ L, p.2 ∈ L.map (·.2) := fun p hp => List.mem_map.mpr ⟨p, hp, rfl⟩
  refine ⟨n, M, 2 * M, hn, p, L, by rw [at_ref.mp at1], .inl h1, hlen, fun p hp => ⟨hL p hp, hdim _ (mem p hp), hM _ (mem p hp)⟩, fun L' r pm pw hr => ?_⟩
  refine h _ _ _ _ (q1 r (L'.map (·.2)) (pm.map _) (List.pairwise_map.mpr (pw.imp_of_mem fun {a b} ha hb hle => ?_))) (a1.new hr ⟨_, upd_same, (ats_of_tI fun p hp => hL p (pm.subset hp)).mono (.laid hr)⟩) (t1.trans (.laid hr)) (at_ref.mpr rfl)
  have ma := mem a (pm.subset ha)
  have mb := mem b (pm.subset hb)
  exact rk_lle ((hdim _ ma).trans (hdim _ mb).symm) (hM _ ma) (hM _ mb) hle
/-- sorted(set(l)), l a list of tuples of d ints -/
theorem ee_sortSetT (c : Cg P w K mg base N Gs Vi M k X) {i j : Nat} {e : Expr} {p p2 pos pos2 : Pos} {Q : D → Sto → Prop} (hg : Gs[i]? = some "sorted") (hm : mg "sorted" = none) (hg2 : Gs[j]? = some "set") (hm2 : mg "set" = none) (q : EE X F en e st fun d st1 => ∃ (p : Addr) (nss : List (List Int)) (n : Nat), d = .ref p ∧ Has st1 p (.lst (nss.map tI)) ∧ nss.length < 64 ∧ 1 ≤ n ∧ (∀ ns ∈ nss, ns.length = n) ∧
      ∀ (r : Addr) (nss' : List (List Int)), nss'.Nodup → (∀ ns, ns ∈ nss' ↔ ns ∈ nss) → nss'.Pairwise lle → nss'.length < 64 → Q (.ref r) (⟨r, true, .lst (nss'.map tI)⟩ :: st1))
    (he : starEach [e] X.env = (false, eval e X.env) :: starEach [] X.env := by rfl) : EE X F en (.Call (.Name "sorted" p) [.Call (.Name "set" p2) [e] [] pos2] [] pos) st Q := by
  obtain ⟨g1, g2, g3⟩ := c.gl i _ hg
  obtain ⟨g4, g5, g6⟩ := c.gl j _ hg2
  refine .intro fun σ H kk s b h => ?_
  have R : CallR X (.builtin "sorted") (fun vs H Q => ∃ (d : Nat) (M B : Int), 1 ≤ d ∧ ∃ (a : Addr) (L : List (Addr × List Int)), vs = [V.ref a] ∧ H a = some (SetTO X.prog X.w a L) ∧ (∀ p ∈ L, SqT X.K H p.1 (p.2.map V.int) ∧ p.2.length = d ∧ Sg.Bs M B p.2) ∧
      ∀ (L' : List (Addr × List Int)) (p : Addr), L'.Perm L → (L'.map (·.2)).Nodup → L'.length < 64 → L'.Pairwise (fun q r => Sg.rk M B q.2 ≤ Sg.rk M B r.2) → H p = none → Q (.ref p) (upd H p (.lst (L'.map fun q => V.ref q.1)))) := by
    intro pins s σ H vs us Q I r ⟨d, M, B, hd, z⟩
    exact Sg.cr_sortSetS c.calm hd pins s σ H vs us Q I r z
  refine ⟨_, pe_callB R g1 (by rw [c.emg]; exact hm) (by decide +kernel) (pa_cons (pe_callTy (cr_setOfT c.calm c.room.units) g4 (by rw [c.emg]; exact hm2) (by decide +kernel) (pa_cons pe_any pa_nil he) g6 g5 he rfl) pa_nil rfl) g3 g2 rfl rfl, q.use s b fun d st1 v H1 ⟨p, nss, n, e1, hh, hlen, hn, hdim, q1⟩ a1 t1 at1 => ?_⟩
  subst e1
  obtain ⟨xs, h1, h2⟩ := a1.has hh
  obtain ⟨L, rfl, rfl, hL⟩ := ats_tI h2
  obtain ⟨M, hM⟩ := bnd2 (L.map (·.2))
  rw [List.length_map] at hlen
  have mem : ∀ p ∈ L, p.2 ∈ L.map (·.2) := fun p hp => List.mem_map.mpr ⟨p, hp, rfl⟩
  refine ⟨p, L, by rw [at_ref.mp at1], .inl h1, hL, hlen, fun a S ha hsub hall => ?_⟩
  have t2 : TExt H1 (upd H1 a (SetTO X.prog X.w a S)) := .laid ha
  refine ⟨n, M, 2 * M, hn, a, S, rfl, upd_same, fun p hp => ⟨t2.sqt (hL p (hsub p hp)), hdim _ (mem p (hsub p hp)), hM _ (mem p (hsub p hp))⟩, fun L' r pm nd few pw hr => ?_⟩
  have inL : ∀ p ∈ L', p ∈ L := fun p hp => hsub p (pm.subset hp)
  have a2 := a1.alloc (o := SetTO X.prog X.w a S) ha
  refine h _ _ _ _ (q1 r (L'.map (·.2)) nd (fun ns => ⟨fun hm => ?_, fun hm => ?_⟩) (List.pairwise_map.mpr (pw.imp_of_mem fun {a b} ha hb hle => ?_)) (by rw [List.length_map]; exact few)) (a2.new hr ⟨_, upd_same, ((ats_of_tI fun p hp => hL p (inL p hp)).mono t2).mono (.laid hr)⟩) ((t1.trans t2).trans (.laid hr)) (at_ref.mpr rfl)
  · obtain ⟨q, hq, rfl⟩ := List.mem_map.mp hm
    exact mem q (inL q hq)
  · obtain ⟨q, hq, rfl⟩ := List.mem_map.mp hm
    obtain ⟨q', hq', e⟩ := List.mem_map.mp (hall q hq)
    exact List.mem_map.mpr ⟨q', pm.symm.subset hq', e⟩
  · have ma := mem a (inL a ha)
    have mb := mem b (inL b hb)
    exact rk_lle ((hdim _ ma).trans (hdim _ mb).symm) (hM _ ma) (hM _ mb) hle
/-- sorted(set(l)), l a list of ints -/
theorem ee_sortSetI (c : Cg P w K mg base N Gs Vi M k X) {i j : Nat} {e : Expr} {p p2 pos pos2 : Pos} {Q : D → Sto → Prop} (hg : Gs[i]? = some "sorted") (hm : mg "sorted" = none) (hg2 : Gs[j]? = some "set") (hm2 : mg "set" = none) (q : EE X F en e st fun d st1 => ∃ (p : Addr) (ns : List Int), d = .ref p ∧ Has st1 p (.lst (ns.map D.int)) ∧ ns.length < 60 ∧
      ∀ (r : Addr) (ns' : List Int), ns'.Pairwise (· < ·) → (∀ n : Int, n ∈ ns' ↔ n ∈ ns) → Q (.ref r) (⟨r, true, .lst (ns'.map D.int)⟩ :: st1))
    (he : starEach [e] X.env = (false, eval e X.env) :: starEach [] X.env := by rfl) : EE X F en (.Call (.Name "sorted" p) [.Call (.Name "set" p2) [e] [] pos2] [] pos) st Q := by
  obtain ⟨g1, g2, g3⟩ := c.gl i _ hg
  obtain ⟨g4, g5, g6⟩ := c.gl j _ hg2
  refine .intro fun σ H kk s b h => ?_
  refine ⟨_, pe_callB (cr_sortedSet c.calm) g1 (by rw [c.emg]; exact hm) (by decide +kernel) (pa_cons (pe_callTy (Sg.cr_setI c.calm) g4 (by rw [c.emg]; exact hm2) (by decide +kernel) (pa_cons pe_any pa_nil he) g6 g5 he rfl) pa_nil rfl) g3 g2 rfl rfl, q.use s b fun d st1 v H1 ⟨p, ns, e1, hh, hlen, q1⟩ a1 t1 at1 => ?_⟩
  subst e1
  obtain ⟨xs, h1, h2⟩ := a1.has hh
  rw [h2.ints] at h1
  refine ⟨p, ns, by rw [at_ref.mp at1], .inl h1, hlen, fun a n hn ha => ?_⟩
  refine ⟨a, _, n, rfl, upd_same, by omega, fun ns' r pw hmem _ hr => ?_⟩
  exact h _ _ _ _ (q1 r ns' pw fun m => (hmem m).trans decide_eq_true_iff) ((a1.alloc ha).new hr ⟨_, upd_same, .of_ints _⟩) ((t1.trans (.laid ha)).trans (.laid hr)) (at_ref.mpr rfl)
end G
end
section
set_option Elab.async false
set_option linter.all false
set_option maxRecDepth 100000
set_option maxHeartbeats 8000000
/-! E1: enumerate of a tuple. -/
namespace G.En
open PySem L2
open PyProof.Rows
theorem newT (l : Addr) (items : Array Value) : Meets (Builtin.«enumerate.__new__» ⟨[.type "enumerate", .ref l], []⟩) (fun _ R s => s.heap.IsTuple l items ∧
      R (.ok (.ret (.ref (s.heap.objs.size + 1)))) { s with heap := (s.heap.push { cls := .type "tuple_iterator", data := .fields #[.ref l, .int 0 0] }).push { cls := .type "enumerate", data := .fields #[.none, .bool false, .ref s.heap.objs.size, rawInt 0, .none, .none] } }) :=
  .of_wp fun prog w A R s h => by
    obtain ⟨hp, g, d, tk, os⟩ := s
    obtain ⟨hl, h⟩ := h
    have hsub := sub_enumerate
    have hz : (hp.push { cls := .type "tuple_iterator", data := .fields #[.ref l, .int 0 0] }).objs.size = hp.objs.size + 1 := Heap.size_push ..
    rw [← show (hp.push { cls := .type "tuple_iterator", data := .fields #[.ref l, .int 0 0] }).objs.size = (Shared.heap ⟨hp, g, d, tk, os⟩).objs.size + 1 from hz] at h
    have q1 : ∀ {A' : Around} {E : Value → Shared → Prop} {Q : Value → Shared → Prop}, Q (.ref hp.objs.size) ⟨hp.push { cls := .type "tuple_iterator", data := .fields #[.ref l, .int 0 0] }, g, d, tk, os⟩ → wpAny (model prog w) A' (pyIter (.ref l)) Q E ⟨hp, g, d, tk, os⟩ :=
      fun q => wpAny_pyIter_tuple (s := ⟨hp, g, d, tk, os⟩) hl q
    wp_walk using q1
    refine wpAny_stack_any fun st => wpAny_pure ?_
    split
    · rename_i c _ _ _ _ _
      cases (c == Value.type "enumerate") <;> (wp_walk using q1; exact ⟨_, rfl, h⟩)
    · wp_walk using q1
      exact ⟨_, rfl, h⟩
section
variable {prog : Program} {w : World} {A : Around} {E : Value → Shared → Prop} {s : Shared}
theorem callT {l : Addr} {items : Array Value} {Q : Value → Shared → Prop} (hL : s.heap.IsTuple l items)
    (h : ∀ h', IsEnum h' (s.heap.objs.size + 1) s.heap.objs.size 0 .none → h'.IsTupleIter s.heap.objs.size l 0 → (∀ b o, s.heap.get? b = some o → h'.get? b = some o) → Q (.ref (s.heap.objs.size + 1)) { s with heap := h' }) :
    wpAny (model prog w) A (call (.type "enumerate") [.ref l]) Q E s := by
  refine callType_new F.called_enumerate (by decide) (F.typeCall_enumerate_1 _) (F.newCall_enumerate_1 _) (fun obj => F.args_object_init_2 obj _) F.entry_enumerate_new (newT l items) ⟨hL, ?_⟩
  have hz : (s.heap.push { cls := .type "tuple_iterator", data := .fields #[.ref l, .int 0 0] }).objs.size = s.heap.objs.size + 1 := Heap.size_push ..
  have he := Heap.get?_push_size (s.heap.push { cls := .type "tuple_iterator", data := .fields #[.ref l, .int 0 0] }) (o := { cls := .type "enumerate", data := .fields #[.none, .bool false, .ref s.heap.objs.size, rawInt 0, .none, .none] }) rfl
  rw [hz] at he
  exact ⟨⟨_, he, rfl⟩, h _ he ⟨_, Heap.get?_push_of_some _ (Heap.get?_push_size _ rfl), rfl, rfl⟩ fun b o x => Heap.get?_push_of_some _ (Heap.get?_push_of_some _ x)⟩
theorem endT {e it l : Addr} {i : Nat} {items : Array Value} {old : Value} {Q : Option Value → Shared → Prop} (hh : A.handled = none) (he : IsEnum s.heap e it i old) (hit : s.heap.IsTupleIter it l i) (hl : s.heap.IsTuple l items) (hx : items[i]? = none)
    (hQ : ∀ h', Heap.ExtBut it s.heap h' → Q none { s with heap := h' }) : wpAny (model prog w) A (pyNext (.ref e)) Q E s := by
  have hT : s.TypeIs (.ref e) "enumerate" := ⟨_, he, rfl⟩
  unfold pyNext
  refine wpAny_bind (wpAny_attempt (wpAny_callSpecial?_slot (name := Str.ofString "__next__") hT F.slot_enumerate_next (wpAny_call_entry F.slot_enumerate_next hT F.entry_enumerate_next ?_ (F.args_enumerate_next_1 _))))
  show wpAny _ _ (field (.ref e) 2 >>= _) _ _ _
  refine wpAny_bind (wpAny_field he rfl (x := .ref it) rfl (wpAny_bind (wpAny_nextOf_tuple_end (show A.in1.handled = none from hh) hit hl hx fun h' x he' hx' => ?_)))
  obtain ⟨o, ho, hc⟩ := hx'
  exact wpAny_bind (wpAny_isInstance (T := "StopIteration") (b := true) ⟨o, ho, hc⟩ isSubtype_stop (wpAny_pure (hQ _ he')))
end
/-- the tuple at a, each item in a new pair -/
def Itet (K : PySem.W.Frag) (a : Addr) : It :=
  ⟨fun i H => ∃ (xs : List V) (x : V), SqT K H a xs ∧ xs[i]? = some x, fun i H v H' => ∃ T x, v = .ref T ∧ H T = none ∧ H' = upd H T (.tup [.int (i : Nat), x]) ∧ ∀ xs, SqT K H a xs → xs[i]? = some x, fun i H => ∃ xs : List V, SqT K H a xs ∧ xs.length ≤ i⟩
theorem turnT {P : Program} {w : World} {K : PySem.W.Frag} {elts : List Expr} {kk : Nat} {tpos : Pos} (a e it : Addr) (hae : a ≠ e) (hai : a ≠ it) :
    Turn P w K (.Tuple elts kk tpos) (Itet K a) [e, it] e (fun i h => (∃ old, IsEnum h e it ((i : Nat) : Int) old) ∧ h.IsTupleIter it a i ∧ e ≠ it) where
  mem := by simp
  obj := fun i h st b hb => by
    obtain ⟨⟨old, he⟩, ⟨o, ho, hc, hd⟩, _⟩ := st
    rcases List.mem_cons.mp hb with z | z
    · rw [z]; exact ⟨_, he, fun v q => nomatch q⟩
    · rw [List.mem_singleton.mp z]; exact ⟨o, ho, fun v q => by rw [hd] at q; cases q⟩
  keep := fun i h h' st k => let ⟨⟨old, he⟩, hi, hne⟩ := st; ⟨⟨old, k e (by simp) _ he⟩, hi.at fun o q => k it (by simp) o q, hne⟩
  item := by
    intro X hP hw hK hc i pins s σ H E I hf st hg
    subst hP hw hK
    obtain ⟨⟨old, he⟩, hit, hne⟩ := st
    obtain ⟨xs, x, hq, hx⟩ := hg
    obtain ⟨its, rv, p, hz⟩ := I.tuple hq
    obtain ⟨u, hu, ru⟩ := rv.get hx
    have hu2 : its.toArray[i]? = some u := by simpa using hu
    have hlt : i < its.toArray.size := (Array.getElem?_eq_some_iff.mp hu2).1
    have hel : e < s.heap.objs.size := Heap.lt_size he
    have hil : it < s.heap.objs.size := by obtain ⟨_, q, _⟩ := hit; exact Heap.lt_size q
    have D : Draws X.prog X.w X.A.in1 it [it, a] its.toArray.size (fun i v => its.toArray[i]? = some v) (fun i h => h.IsTupleIter it a i ∧ h.IsTuple a its.toArray) := .tuple (show X.A.in1.handled = none from I.ok.hd hc) it a hai its.toArray
    refine wpAny_pyNext_enum_itemD D he ⟨hit, p⟩ hlt hne (by
      intro hm
      rcases List.mem_cons.mp hm with z | z
      · exact hne z
      · exact hae (List.mem_singleton.mp z).symm) fun x' h' tk hx' ho hit' hT hsz hk => ?_
    have hxx : x' = u := by
      have e1 : its.toArray[i]? = some x' := hx'
      rw [hu2] at e1
      exact (Option.some.inj e1).symm
    subst hxx
    refine ⟨_, rfl, wpAny_letOwnedTupleGo_enum (s := { s with heap := h', toks := tk + 1 }) ho fun h'' he' sb => ?_⟩
    have hT2 := (sb.2 _ (Nat.ne_of_gt hel)).trans hT
    have new : ObjOk X.prog X.w (upd H s.heap.objs.size (.tup [.int (i : Nat), x])) h'' s.heap.objs.size (.tup [.int (i : Nat), x]) :=
      ⟨by show 2 ≤ sizeLine; decide, [.int i tk, x'], .cons ⟨_, rfl⟩ (.cons ru .nil), ⟨_, hT2, rfl, _, rfl⟩⟩
    have out : ∀ b, b ∉ [e, it] → b ≠ e ∧ b ≠ it := fun b hb => ⟨fun z => hb (by simp [z]), fun z => hb (by simp [z])⟩
    have I1 : Inv X pins σ (upd H s.heap.objs.size (.tup [.int (i : Nat), x])) { s with heap := h'', toks := tk + 1 } :=
      I.turnedNew (ch := [e, it]) (fun b ob hb q => (sb.2 b (out b hb).1).trans (hk b ob (out b hb).1 (out b hb).2 q)) hf (Nat.le_refl _) new
    refine ⟨.ref s.heap.objs.size, _, I1, rfl, ⟨_, x, rfl, I.hok.fresh (Nat.le_refl _), rfl, fun ys hy => by rw [I.tuple_inj hy hq]; exact hx⟩, ⟨⟨x', ?_⟩, hit'.1.at fun o q => (sb.2 it (Ne.symm hne)).trans q, hne⟩, fun b hb => ?_⟩
    · rw [show ((i + 1 : Nat) : Int) = (i : Int) + 1 by omega]; exact he'
    · have hb' : b < s.heap.objs.size := by
        rcases List.mem_cons.mp hb with z | z
        · rw [z]; exact hel
        · rw [List.mem_singleton.mp z]; exact hil
      rw [upd_ne (Nat.ne_of_lt hb')]
      exact (hf b hb).1
  done := by
    intro X hP hw hK hc i pins s σ H E I hf st hg
    subst hP hw hK
    obtain ⟨⟨old, he⟩, hit, hne⟩ := st
    obtain ⟨xs, hq, hx⟩ := hg
    obtain ⟨its, rv, p, hz⟩ := I.tuple hq
    obtain ⟨f0, f1, f2, f3, f4, f5⟩ := hf it (by simp)
    have hl := rv.length
    exact endT (I.ok.hd hc) he hit p (by simp; omega) fun h' eb => ⟨rfl, I.turned (t' := s.toks) (fun b o hb q => eb b o hb q) f0 f1 f3 f4 f5⟩
  self := fun A i s Q E st h => let ⟨⟨_, he⟩, _⟩ := st; wpAny_pyIter_enum he h
def iEnT (K : PySem.W.Frag) (ta : TE) : TI := fun σ H R => ta σ H fun v H1 => ∃ a xs, [v] = [V.ref a] ∧ SqT K H1 a xs ∧ R (Itet K a) H1
theorem pi_enT {X : Cx} {e : Expr} {ta : TE} {p pos tpos : Pos} {elts : List Expr} {kk : Nat} (hg : Gl X "enumerate") (hm : X.mg "enumerate" = none) (ha : PE X e ta) (hs : starEach [e] X.env = [(false, eval e X.env)]) :
    PI X (.Tuple elts kk tpos) (.Call (.Name "enumerate" p) [e] [] pos) (iEnT X.K ta) := by
  refine ⟨fun pins s σ H R I h => ?_⟩
  have pa := pa_cons ha pa_nil (by rw [hs]; rfl)
  refine Call_ (ld_blt I hg hm boot_enumerate (PyProof.Rows.callWith_type1 (thn (pa.run pos pins s σ H (fun vs H1 => ∃ a xs, vs = [V.ref a] ∧ SqT X.K H1 a xs ∧ R (Itet X.K a) H1) I ?_) fun us s1 ⟨vs, H1, I1, r1, q1⟩ => ?_) hs rfl))
  · exact h
  · obtain ⟨a, xs, ex, hq, q⟩ := q1
    subst ex
    rw [Vals.ref1 r1]
    obtain ⟨its, rv, pt, hz⟩ := I1.tuple hq
    refine callT (show s1.heap.IsTuple a its.toArray from pt) fun h' he hit hk => wpAny_pyIter_enum he ?_
    have I2 : Inv X pins σ H1 { s1 with heap := h' } := I1.kept (t' := s1.toks) hk
    have hal : a < s1.heap.objs.size := pt.lt
    refine ⟨s1.heap.objs.size + 1, [s1.heap.objs.size + 1, s1.heap.objs.size], _, _, H1, rfl, I2, turnT a (s1.heap.objs.size + 1) s1.heap.objs.size (Nat.ne_of_lt (Nat.lt_succ_of_lt hal)) (Nat.ne_of_lt hal), ⟨⟨.none, he⟩, hit, Nat.succ_ne_self _⟩, fun b hb => ?_, q⟩
    have hle : s1.heap.objs.size ≤ b := by
      rcases List.mem_cons.mp hb with z | z
      · rw [z]; exact Nat.le_succ _
      · rw [List.mem_singleton.mp z]; exact Nat.le_refl _
    exact I1.fpOk hle (I1.hok.fresh hle)
end G.En
end
section
set_option Elab.async false
set_option linter.all false
set_option maxRecDepth 100000
set_option maxHeartbeats 4000000
/-! G7: what loops walk; loops; comprehensions; locks. -/
namespace G
open PySem L2
variable {X : Cx} {F : Fr} {en : Env} {st : Sto} {P : Program} {w : World} {K : PySem.W.Frag} {mg : Str → Option Value} {base : Heap} {N Gs : List Str} {Vi M : List Nat} {k : Nat}

/-! ### iterators -/
/-- the iterator J yields the data ds, wherever the store is as src says -/
def Walks (K : PySem.W.Frag) (F : Fr) (src : Sto → Prop) (ds : List D) (J : It) (H1 : Hp) : Prop := ∀ i H st, TExt H1 H → SOk K F st H → src st → (i = ds.length → J.stop i H) ∧ (i < ds.length → J.go i H) ∧
  ∀ x H', J.yld i H x H' → ∀ d, ds[i]? = some d → At K H' x d ∧ SOk K F st H' ∧ TExt H H'
def tI' (K : PySem.W.Frag) (F : Fr) (en : Env) (st : Sto) (Q : (Sto → Prop) → List D → Sto → Prop) : TI := fun σ H R => SOk K F st H ∧ EnvAt K H σ en ∧ ∀ src ds st' H' J, Q src ds st' → SOk K F st' H' → TExt H H' → Walks K F src ds J H' → R J H'
def EI (X : Cx) (F : Fr) (en : Env) (tg it : Expr) (st : Sto) (Q : (Sto → Prop) → List D → Sto → Prop) : Prop := PI X tg it (tI' X.K F en st Q)
def anyI (X : Cx) (tg it : Expr) : TI := fun σ H k => ∃ t, PI X tg it t ∧ t σ H k
theorem pi_any {X : Cx} {tg it : Expr} : PI X tg it (anyI X tg it) := ⟨fun pins s σ H R I ⟨_, h, q⟩ => h.run pins s σ H R I q⟩
theorem EI.intro {tg it : Expr} {Q : (Sto → Prop) → List D → Sto → Prop} (h : ∀ σ H R, SOk X.K F st H → EnvAt X.K H σ en → (∀ src ds st' H' J, Q src ds st' → SOk X.K F st' H' → TExt H H' → Walks X.K F src ds J H' → R J H') → anyI X tg it σ H R) : EI X F en tg it st Q :=
  ⟨fun pins s σ H k I ⟨a, b, c⟩ => pi_any.run pins s σ H k I (h σ H k a b c)⟩
theorem EI.use {tg it : Expr} {Q : (Sto → Prop) → List D → Sto → Prop} {σ : St} {H : Hp} {R : It → Hp → Prop} (h : EI X F en tg it st Q) (a : SOk X.K F st H) (b : EnvAt X.K H σ en) (c : ∀ src ds st' H' J, Q src ds st' → SOk X.K F st' H' → TExt H H' → Walks X.K F src ds J H' → R J H') : anyI X tg it σ H R := ⟨_, h, a, b, c⟩
/-- a tuple -/
theorem ei_tup {tg e : Expr} {Q : (Sto → Prop) → List D → Sto → Prop} (q : EE X F en e st fun d st1 => ∃ ds, d = .tup ds ∧ Q (fun _ => True) ds st1) : EI X F en tg e st Q :=
  .intro fun σ H R a b h => ⟨_, pi_tup pe_any, q.use a b fun d st1 v H1 ⟨ds, e1, q1⟩ a1 t1 at1 => by
    subst e1
    obtain ⟨p, xs, rfl, h1, h2⟩ := at_tup.mp at1
    refine ⟨p, rfl, ⟨xs, h1⟩, h _ _ _ _ _ q1 a1 t1 fun i H st t s _ => ⟨fun e => ⟨xs, t.sqt h1, by rw [h2.length]; omega⟩, fun e => ⟨xs, xs[i]'(by rw [h2.length]; exact e), t.sqt h1, by simp⟩, fun x H' y d hd => ?_⟩⟩
    obtain ⟨e, y⟩ := y
    subst e
    obtain ⟨v, hv, ha⟩ := (h2.mono t).get hd
    have := y xs (t.sqt h1)
    rw [hv] at this
    cases this
    exact ⟨ha, s, .refl _⟩⟩
/-- a list of the store -/
theorem ei_lst {tg e : Expr} {Q : (Sto → Prop) → List D → Sto → Prop} (q : EE X F en e st fun d st1 => ∃ p ds, d = .ref p ∧ Has st1 p (.lst ds) ∧ Q (fun st => Has st p (.lst ds)) ds st1) : EI X F en tg e st Q :=
  .intro fun σ H R a b h => ⟨_, pi_list pe_any, q.use a b fun d st1 v H1 ⟨p, ds, e1, hh, q1⟩ a1 t1 at1 => by
    subst e1
    obtain rfl := at_ref.mp at1
    obtain ⟨xs0, g1, g2⟩ := a1.has hh
    refine ⟨p, rfl, ⟨xs0, .inl g1⟩, h _ _ _ _ _ q1 a1 t1 fun i H st t s hs => ?_⟩
    obtain ⟨xs, h1, h2⟩ := s.has hs
    refine ⟨fun e => ⟨xs, .inl h1, by rw [h2.length]; omega⟩, fun e => ⟨xs, xs[i]'(by rw [h2.length]; exact e), .inl h1, by simp⟩, fun x H' y d hd => ?_⟩
    obtain ⟨e, y⟩ := y
    subst e
    obtain ⟨v, hv, ha⟩ := h2.get hd
    have := y xs (.inl h1)
    rw [hv] at this
    cases this
    exact ⟨ha, s, .refl _⟩⟩
/-- range(n) -/
theorem ei_rng (c : Cg P w K mg base N Gs Vi M k X) {j : Nat} {tg e : Expr} {p pos : Pos} {Q : (Sto → Prop) → List D → Sto → Prop} (hg : Gs[j]? = some "range") (hm : mg "range" = none)
    (q : EE X F en e st fun d st1 => ∃ n : Int, d = .int n ∧ -(2 ^ 62) ≤ n ∧ n < 2 ^ 62 ∧ Q (fun _ => True) ((List.range n.toNat).map fun (i : Nat) => D.int i) st1) (hs1 : starEach [e] X.env = [(false, eval e X.env)] := by rfl) : EI X F en tg (.Call (.Name "range" p) [e] [] pos) st Q :=
  .intro fun σ H R a b h => by
    obtain ⟨g1, g2, g3⟩ := c.gl j _ hg
    refine ⟨_, pi_range1 g1 (by rw [c.emg]; exact hm) (pa_cons pe_any pa_nil hs1) hs1, q.use a b fun d st1 v H1 ⟨n, e1, lo, hi, q1⟩ a1 t1 at1 => ?_⟩
    subst e1
    refine ⟨n, by rw [at_int.mp at1], lo, hi, h _ _ _ _ _ q1 a1 t1 fun i H st t s _ => ⟨fun e => ?_, fun e => ?_, fun x H' y d hd => ?_⟩⟩
    · show n.toNat ≤ i
      rw [e]; simp
    · show i < n.toNat
      simpa using e
    · obtain ⟨e, y⟩ := y
      subst e
      rw [List.getElem?_map] at hd
      have hi : i < n.toNat := by
        cases z : (List.range n.toNat)[i]? with
        | none => rw [z] at hd; cases hd
        | some m => simpa using (List.getElem?_eq_some_iff.mp z).1
      rw [List.getElem?_range hi] at hd
      cases hd
      exact ⟨at_int.mpr (by rw [y, Int.zero_add]), s, .refl _⟩
/-- enumerate(t) of a tuple -/
theorem ei_enT (c : Cg P w K mg base N Gs Vi M k X) {j kk : Nat} {e : Expr} {elts : List Expr} {p pos tpos : Pos} {Q : (Sto → Prop) → List D → Sto → Prop} (hg : Gs[j]? = some "enumerate") (hm : mg "enumerate" = none)
    (q : EE X F en e st fun d st1 => ∃ ds, d = .tup ds ∧ Q (fun _ => True) (ds.zipIdx.map fun q => D.tup [.int (q.2 : Nat), q.1]) st1) (hs1 : starEach [e] X.env = [(false, eval e X.env)] := by rfl) : EI X F en (.Tuple elts kk tpos) (.Call (.Name "enumerate" p) [e] [] pos) st Q :=
  .intro fun σ H R a b h => by
    obtain ⟨g1, g2, g3⟩ := c.gl j _ hg
    refine ⟨_, En.pi_enT g1 (by rw [c.emg]; exact hm) pe_any hs1, q.use a b fun d st1 v H1 ⟨ds, e1, q1⟩ a1 t1 at1 => ?_⟩
    subst e1
    obtain ⟨p, xs, rfl, h1, h2⟩ := at_tup.mp at1
    refine ⟨p, xs, rfl, h1, h _ _ _ _ _ q1 a1 t1 fun i H st t s _ => ⟨fun e => ⟨xs, t.sqt h1, by rw [h2.length]; simp at e; omega⟩, fun e => ⟨xs, xs[i]'(by rw [h2.length]; simpa using e), t.sqt h1, by simp⟩, fun x H' y d hd => ?_⟩⟩
    obtain ⟨T, x', rfl, hT, rfl, y⟩ := y
    rw [List.getElem?_map, List.getElem?_zipIdx] at hd
    cases z : ds[i]? with
    | none => rw [z] at hd; cases hd
    | some d' =>
      rw [z] at hd
      cases hd
      obtain ⟨v, hv, ha⟩ := (h2.mono t).get z
      have := y xs (t.sqt h1)
      rw [hv] at this
      cases this
      have tt : TExt H (upd H T (.tup [.int (i : Nat), x'])) := .laid hT
      refine ⟨at_tup.mpr ⟨T, _, rfl, SqT.of upd_same, ats_cons.mpr ⟨_, _, rfl, at_int.mpr (by simp), .one (ha.mono tt)⟩⟩, s.alloc hT, tt⟩

/-! ### for -/
variable {Nn : Env → Sto → Prop} {R : D → Sto → Prop}
theorem ss_for (c : Cg P w K mg base N Gs Vi M k X) {vs : List Nat} {tg it : Expr} {body : List Stmt} {pos : Pos}
    (q : EI X F en tg it st fun src ds st1 => ∃ Pv : Nat → Env → Sto → Prop, Pv 0 en st1 ∧ (∀ i en2 st2, i ≤ ds.length → Pv i en2 st2 → src st2) ∧
      (∀ i d en2 st2, ds[i]? = some d → Pv i en2 st2 → EG X F vs tg d en2 st2 fun en3 st3 => SL X F body en3 st3 (fun en' st' => Pv (i + 1) en' st') R) ∧ ∀ en2 st2, Pv ds.length en2 st2 → Nn en2 st2)
    (hs : ∀ x, foldedSetIterable it X.env x = pure x := by intro _; rfl) : SS X F (.For tg it body [] pos) en st Nn R :=
  .intro fun σ H D a b n r => by
    refine ⟨_, ps_for c.own c.calm pi_any pg_any pss_any hs, q.use a b fun src ds st1 H1 J ⟨Pv, p0, ps, pt, pe⟩ a1 t1 wk => ?_⟩
    refine ⟨fun i m σ H' => m = ds.length - i ∧ i ≤ ds.length ∧ ∃ en2 st2, Pv i en2 st2 ∧ SOk X.K F st2 H' ∧ EnvAt X.K H' σ en2 ∧ TExt H1 H', ⟨ds.length, by simp, Nat.zero_le _, en, st1, p0, a1, b.mono t1, .refl H1⟩, ?_⟩
    rintro i m σ2 H2 ⟨rfl, hi, en2, st2, p2, a2, b2, t2⟩
    obtain ⟨w1, w2, w3⟩ := wk i H2 st2 t2 a2 (ps i en2 st2 hi p2)
    by_cases hlt : i < ds.length
    · refine .inr ⟨w2 hlt, fun σ' H' => ∃ en2 st2, Pv (i + 1) en2 st2 ∧ SOk X.K F st2 H' ∧ EnvAt X.K H' σ' en2 ∧ TExt H1 H', fun σ' H' p' => ⟨ds.length - (i + 1), by omega, rfl, hlt, p'⟩, fun x H' y => ?_⟩
      have hd : ds[i]? = some ds[i] := by simp [hlt]
      obtain ⟨y1, y2, y3⟩ := w3 x H' y _ hd
      refine EG.use (pt i _ en2 st2 hd p2) y1 y2 (b2.mono y3) fun en3 st3 σ3 H3 q3 a3 b3 t3 _ => ?_
      exact SL.use q3 a3 b3 (fun en' st' σ' H' p' a' b' t' => ⟨en', st', p', a', b', ((t2.trans y3).trans t3).trans t'⟩) r
    · have e : i = ds.length := by omega
      subst e
      exact .inl ⟨w1 rfl, n en2 st2 σ2 H2 (pe en2 st2 p2) a2 b2 (t1.trans t2)⟩

/-! ### comprehensions -/
def wipeE (en : Env) : List Nat → Env
  | [] => en
  | v :: vs => (wipeE en vs).set v none
theorem wipeE_length (en : Env) : ∀ vs : List Nat, (wipeE en vs).length = en.length
  | [] => rfl
  | v :: vs => by unfold wipeE; rw [List.length_set, wipeE_length en vs]
theorem EnvAt.wipe {K : PySem.W.Frag} {H : Hp} {σ : St} {en : Env} (h : EnvAt K H σ en) : ∀ vs : List Nat, EnvAt K H (wipe σ vs) (wipeE en vs)
  | [] => h
  | v :: vs => by
    have ih := EnvAt.wipe h vs
    unfold L2.wipe wipeE
    refine ⟨by rw [List.length_set, List.length_set]; exact ih.1, fun i d e => ?_⟩
    by_cases hi : v = i
    · subst hi
      have hl : v < (wipeE en vs).length := by
        have := (List.getElem?_eq_some_iff.mp e).1
        simpa using this
      rw [List.getElem?_set_self hl] at e; cases e
    · rw [List.getElem?_set_ne hi] at e ⊢
      exact ih.2 i d e
theorem wipe_out {σ : St} {j : Nat} : ∀ {vs : List Nat}, j ∉ vs → (wipe σ vs)[j]? = σ[j]?
  | [], _ => rfl
  | v :: vs, h => by
    unfold L2.wipe
    rw [List.getElem?_set_ne (fun e => h (by rw [← e]; exact List.mem_cons_self))]
    exact wipe_out fun z => h (List.mem_cons_of_mem _ z)
theorem wipe_in {σ : St} {j : Nat} : ∀ {vs : List Nat}, j ∈ vs → j < σ.length → (wipe σ vs)[j]? = some none
  | [], h, _ => by cases h
  | v :: vs, h, hl => by
    unfold L2.wipe
    by_cases e : v = j
    · subst e
      rw [List.getElem?_set_self (by rw [wipe_length]; exact hl)]
    · rw [List.getElem?_set_ne e]
      rcases List.mem_cons.mp h with z | z
      · exact absurd z.symm e
      · exact wipe_in z hl
theorem wipe_same {σ σ2 : St} {vs : List Nat} (hl : σ2.length = (wipe σ vs).length) (h : ∀ j, j ∉ vs → σ2[j]? = (wipe σ vs)[j]?) : wipe σ2 vs = wipe σ vs := by
  have e1 : σ2.length = σ.length := by rw [hl, wipe_length]
  refine List.ext_getElem? fun j => ?_
  by_cases hj : j ∈ vs
  · by_cases hlt : j < σ.length
    · rw [wipe_in hj (by rw [e1]; exact hlt), wipe_in hj hlt]
    · rw [List.getElem?_eq_none (by rw [wipe_length]; omega), List.getElem?_eq_none (by rw [wipe_length]; omega)]
  · rw [wipe_out hj, h j hj]
/-- the block of a comprehension: its own names (M'), what else it reads (V') -/
def chkB (sc scope : Scope) (N G : List Str) (V M : List Nat) : Bool :=
  (V.all fun i => match N[i]? with
    | none => true
    | some x => (match scope.names.lookup x with | some .local => true | some .cell => true | some .free => true | _ => false) && !(x == ("__debug__" : Str)) && !(x == ("__classdict__" : Str))) &&
  (M.all fun i => match N[i]? with
    | none => true
    | some x => (match scope.names.lookup x with | some .local => true | _ => false)) &&
  (G.all fun x => (match scope.names.lookup x with | some .globalImplicit => true | _ => false) && !(x == ("__debug__" : Str)) && decide (x ≠ "__name__")) && (match scope.kind with | .function => true | _ => false)
theorem relS_look {sc : Scope} {x : Str} : ∀ {names : List (Str × NameKind)} {kd : NameKind}, names.lookup x = some kd → (kd ≠ .free → (names.map fun (n, k) => if (k == .free && sc.kind == .function && sc.names.lookup n == some .cell) then (n, NameKind.cell) else (n, k)).lookup x = some kd) ∧
    (kd = .free → (names.map fun (n, k) => if (k == .free && sc.kind == .function && sc.names.lookup n == some .cell) then (n, NameKind.cell) else (n, k)).lookup x = some .free ∨ (names.map fun (n, k) => if (k == .free && sc.kind == .function && sc.names.lookup n == some .cell) then (n, NameKind.cell) else (n, k)).lookup x = some .cell)
  | [], _, h => by simp at h
  | (m, k0) :: r, kd, h => by
    rw [List.lookup_cons] at h
    rw [List.map_cons]
    cases hx : x == m with
    | true =>
      rw [hx] at h
      cases h
      constructor
      · intro hk
        have : (k0 == NameKind.free) = false := by cases k0 <;> first | rfl | exact absurd rfl hk
        simp [this, List.lookup_cons, hx]
      · intro hk
        subst hk
        by_cases z : (NameKind.free == NameKind.free && sc.kind == .function && sc.names.lookup m == some .cell) = true
        · right
          simp only [z, if_true, List.lookup_cons, hx]
        · left
          simp only [if_neg z, List.lookup_cons, hx]
    | false =>
      rw [hx] at h
      have ih := relS_look (sc := sc) h
      have e : ∀ kk : NameKind, List.lookup x ((if (k0 == .free && sc.kind == .function && sc.names.lookup m == some .cell) = true then (m, NameKind.cell) else (m, k0)) :: (r.map fun (n, k) => if (k == .free && sc.kind == .function && sc.names.lookup n == some .cell) then (n, NameKind.cell) else (n, k))) = some kk ↔ (r.map fun (n, k) => if (k == .free && sc.kind == .function && sc.names.lookup n == some .cell) then (n, NameKind.cell) else (n, k)).lookup x = some kk := fun kk => by
        split <;> simp only [List.lookup_cons, hx]
      exact ⟨fun hk => (e _).mpr (ih.1 hk), fun hk => (ih.2 hk).imp (e _).mpr (e _).mpr⟩
theorem Cg.blk (c : Cg P w K mg base N Gs Vi M k X) {scope : Scope} {G' : List Str} {V' M' : List Nat} (h : chkB X.env.scope scope N G' V' M' = true) (s : Shared) (H : Hp) (C : Addr) (cl : List (Str × Addr)) (fp : List Addr) :
    Cg P w K mg base N G' V' M' k (X.blk s H scope (compEnvC scope cl C X.env) fp) := by
  unfold chkB at h
  simp only [Bool.and_eq_true, List.all_eq_true] at h
  obtain ⟨⟨⟨h1, h2⟩, h3⟩, h4⟩ := h
  refine ⟨c.eprog, c.ew, c.eK, c.emg, c.ebase, c.eN, c.calm, c.room, c.nd, fun i x hi hN => ?_, fun i x hi hN => ?_, fun j x hj => ?_, ?_, PassesOwn.never⟩
  · have q := h1 i (by simpa using hi)
    rw [hN] at q
    simp only [Bool.and_eq_true, Bool.not_eq_true'] at q
    obtain ⟨⟨q1, q2⟩, q3⟩ := q
    refine ⟨?_, q2, q3⟩
    split at q1
    · rename_i e; exact .inl ((relS_look (sc := X.env.scope) e).1 (by decide))
    · rename_i e; exact .inr (.inl ((relS_look (sc := X.env.scope) e).1 (by decide)))
    · rename_i e
      rcases (relS_look (sc := X.env.scope) e).2 rfl with z | z
      · exact .inr (.inr z)
      · exact .inr (.inl z)
    · cases q1
  · have q := h2 i (by simpa using hi)
    rw [hN] at q
    simp only at q
    split at q
    · rename_i e
      have z := (relS_look (sc := X.env.scope) e).1 (by decide)
      exact ⟨.inl z, .inr z⟩
    · cases q
  · have q := h3 x (List.mem_of_getElem? hj)
    simp only [Bool.and_eq_true, Bool.not_eq_true', decide_eq_true_eq] at q
    obtain ⟨⟨q1, q2⟩, q3⟩ := q
    refine ⟨?_, q2, q3⟩
    split at q1
    · rename_i e; exact (relS_look (sc := X.env.scope) e).1 (by decide)
    · cases q1
  · split at h4
    · assumption
    · cases h4
/-- the contexts of a comprehension's block -/
def Blk (P : Program) (w : World) (K : PySem.W.Frag) (mg : Str → Option Value) (base : Heap) (N G : List Str) (V M : List Nat) (k : Nat) (X' : Cx) : Prop := X'.K = K ∧ Cg P w K mg base N G V M k X'
def uG (XX : Cx → Prop) (tg : Expr) : TG := fun v σ H k => ∃ t, (∀ X', XX X' → PG X' tg t) ∧ t v σ H k
def uE (XX : Cx → Prop) (e : Expr) : TE := fun σ H k => ∃ t, (∀ X', XX X' → PE X' e t) ∧ t σ H k
def uT (XX : Cx → Prop) (es : List Expr) : TT := fun σ H k => ∃ t, (∀ X', XX X' → PTs X' es t) ∧ t σ H k
theorem pg_u {XX : Cx → Prop} {X' : Cx} {tg : Expr} (h : XX X') : PG X' tg (uG XX tg) := ⟨fun pins s σ H v u k I r ⟨_, a, b⟩ => (a X' h).run pins s σ H v u k I r b⟩
theorem pe_u {XX : Cx → Prop} {X' : Cx} {e : Expr} (h : XX X') : PE X' e (uE XX e) := ⟨fun pins s σ H k I ⟨_, a, b⟩ => (a X' h).run pins s σ H k I b⟩
theorem pts_u {XX : Cx → Prop} {X' : Cx} {es : List Expr} (h : XX X') : PTs X' es (uT XX es) := ⟨fun pins s σ H k I ⟨_, a, b⟩ => (a X' h).run pins s σ H k I b⟩
/-- what an item's turn asks -/
def ItemOk (XX : Cx → Prop) (F : Fr) (p : Addr) (elt : Expr) (en3 : Env) (st3 : Sto) (Pn : Sto → Prop) : Prop :=
  ∀ X', XX X' → EE X' F en3 elt st3 fun d' st5 => ∃ acc st6, Put st5 p (.lst acc) (.lst (acc ++ [d'])) st6 ∧ acc.length < sizeLine ∧ Pn st6
def TurnOk (XX : Cx → Prop) (F : Fr) (p : Addr) (elt : Expr) (ifs : List Expr) (en3 : Env) (st3 : Sto) (Pn : Sto → Prop) : Prop :=
  match ifs with
  | [] => ItemOk XX F p elt en3 st3 Pn
  | [t] => ∀ X', XX X' → ET X' F en3 t st3 fun b st4 => (b = true → ItemOk XX F p elt en3 st4 Pn) ∧ (b = false → Pn st4)
  | _ => False
/-- [elt for tg in it if ..] -/
theorem ee_lc (c : Cg P w K mg base N Gs Vi M k X) {elt tg it : Expr} {ifs : List Expr} {scope : Scope} (own : List (Str × Nat)) {pos : Pos} {Q : D → Sto → Prop} {G' : List Str} {V' : List Nat} (ok : blkC N X.env.scope scope own = true) (hc : chkB X.env.scope scope N G' V' (own.map (·.2)) = true)
    (q : EI X F en tg it st fun src ds st1 => ∀ p, ∃ Pv : Nat → Sto → Prop, Pv 0 (⟨p, true, .lst []⟩ :: st1) ∧ (∀ i st2, i ≤ ds.length → Pv i st2 → src st2) ∧
      (∀ i d st2, ds[i]? = some d → Pv i st2 → ∀ X', Blk P w K mg base N G' V' (own.map (·.2)) k X' → EG X' F (own.map (·.2)) tg d (wipeE en (own.map (·.2))) st2 fun en3 st3 =>
        TurnOk (Blk P w K mg base N G' V' (own.map (·.2)) k) F p elt ifs en3 st3 (Pv (i + 1))) ∧
      ∀ st2, Pv ds.length st2 → Q (.ref p) st2)
    (hs : ∀ x, foldedSetIterable it X.env x = pure x := by intro _; rfl) : EE X F en (.ListComp elt [⟨tg, it, ifs, 0⟩] scope pos) st Q := by
  have B : ∀ (s : Shared) (H : Hp) (C : Addr) (cl : List (Str × Addr)) (fp : List Addr), Blk P w K mg base N G' V' (own.map (·.2)) k (X.blk s H scope (compEnvC scope cl C X.env) fp) := fun s H C cl fp => ⟨c.eK, c.blk hc s H C cl fp⟩
  refine .intro fun σ H kk s b h => ⟨_, pe_lc (own := own) c.calm (by rw [c.eN]; exact c.nd) pi_any (blkOk_by (by rw [c.eN]; exact ok)) (fun s H C cl fp => pg_u (B s H C cl fp)) (fun s H C cl fp => pts_u (B s H C cl fp)) (fun s H C cl fp => pe_u (B s H C cl fp)) hs,
    q.use s b fun src ds st1 H1 J q1 a1 t1 wk => fun r hr => ?_⟩
  obtain ⟨Pv, p0, ps, pt, pe⟩ := q1 r
  refine ⟨fun i m H' => m = ds.length - i ∧ i ≤ ds.length ∧ ∃ st2, Pv i st2 ∧ SOk X.K F st2 H' ∧ TExt H1 H', ⟨ds.length, by simp, Nat.zero_le _, _, p0, a1.new hr ⟨[], upd_same, ats_nil.mpr rfl⟩, .laid hr⟩, ?_⟩
  rintro i m H2 ⟨rfl, hi, st2, p2, a2, t2⟩
  obtain ⟨w1, w2, w3⟩ := wk i H2 st2 t2 a2 (ps i st2 hi p2)
  by_cases hlt : i < ds.length
  · refine .inr ⟨w2 hlt, fun H' => ∃ st2, Pv (i + 1) st2 ∧ SOk X.K F st2 H' ∧ TExt H1 H', fun H' p' => ⟨ds.length - (i + 1), by omega, rfl, hlt, p'⟩, fun x H' y => ?_⟩
    have hd : ds[i]? = some ds[i] := by simp [hlt]
    obtain ⟨y1, y2, y3⟩ := w3 x H' y _ hd
    have item : ∀ en3 st3 σ3 H3, ItemOk (Blk P w K mg base N G' V' (own.map (·.2)) k) F r elt en3 st3 (Pv (i + 1)) → SOk X.K F st3 H3 → EnvAt X.K H3 σ3 en3 → TExt H1 H3 →
        uE (Blk P w K mg base N G' V' (own.map (·.2)) k) elt σ3 H3 fun y H4 => ∃ acc, H4 r = some (.lst acc) ∧ acc.length < sizeLine ∧ ∃ st2, Pv (i + 1) st2 ∧ SOk X.K F st2 (upd H4 r (.lst (acc ++ [y]))) ∧ TExt H1 (upd H4 r (.lst (acc ++ [y]))) := fun en3 st3 σ3 H3 io a3 b3 t3 => by
      refine ⟨tE K F en3 st3 fun d' st5 => ∃ acc st6, Put st5 r (.lst acc) (.lst (acc ++ [d'])) st6 ∧ acc.length < sizeLine ∧ Pv (i + 1) st6, fun X' hX => by have := io X' hX; unfold EE at this; rw [hX.1] at this; exact this, by rw [← c.eK]; exact a3, by rw [← c.eK]; exact b3, ?_⟩
      rintro d' st5 v H4 ⟨acc, st6, hp, hl, q6⟩ a5 t5 at5
      rw [← c.eK] at a5 at5
      obtain ⟨xs, g1, g2, g3⟩ := a5.putL hp
      obtain ⟨g4, g5⟩ := g3 (xs ++ [v]) (g2.append (.one at5))
      exact ⟨xs, g1, by rw [g2.length]; exact hl, st6, q6, g4, (t3.trans t5).trans g5⟩
    refine ⟨tG K F (own.map (·.2)) ds[i] (wipeE en (own.map (·.2))) st2 _, fun X' hX => by have := pt i _ st2 hd p2 X' hX; unfold EG at this; rw [hX.1] at this; exact this, by rw [← c.eK]; exact y1, by rw [← c.eK]; exact y2, by rw [← c.eK]; exact (((b.mono t1).mono t2).mono y3).wipe _, ?_⟩
    rintro en3 st3 σ3 H3 tk a3 b3 t3 ⟨l1, l2⟩
    rw [← c.eK] at a3 b3
    refine ⟨wipe_same l1 l2, ?_⟩
    have t13 : TExt H1 H3 := (t2.trans y3).trans t3
    unfold TurnOk at tk
    split at tk
    · refine ⟨_, fun X' hX => pts_nil, ?_⟩
      simp only [if_true, tNil]
      exact item en3 st3 σ3 H3 tk a3 b3 t13
    · rename_i t
      refine ⟨tT K F en3 st3 _, fun X' hX => pts_one (by have := tk X' hX; unfold ET at this; rw [hX.1] at this; exact this), by rw [← c.eK]; exact a3, by rw [← c.eK]; exact b3, ?_⟩
      rintro bb st4 H4 ⟨k1, k2⟩ a4 t4
      rw [← c.eK] at a4
      cases bb with
      | true =>
        rw [if_pos rfl]
        exact item en3 st4 σ3 H4 (k1 rfl) a4 (b3.mono t4) (t13.trans t4)
      | false =>
        rw [if_neg Bool.false_ne_true]
        exact ⟨st4, k2 rfl, a4, t13.trans t4⟩
    · exact tk.elim
  · have e : i = ds.length := by omega
    subst e
    exact .inl ⟨w1 rfl, h _ _ _ _ (pe st2 p2) a2 (t1.trans t2) (at_ref.mpr rfl)⟩

/-! ### a dict locked while it is walked -/
inductive Lk : Sto → Addr → List (Int × D) → Sto → Prop
  | here {p kvs st} : Lk (⟨p, true, .dic kvs⟩ :: st) p kvs (⟨p, false, .dic kvs⟩ :: st)
  | there {e st p kvs st'} : Lk st p kvs st' → Lk (e :: st) p kvs (e :: st')
theorem Lk.mem {st stl : Sto} {p : Addr} {kvs : List (Int × D)} (h : Lk st p kvs stl) : ⟨p, true, .dic kvs⟩ ∈ st ∧ ⟨p, false, .dic kvs⟩ ∈ stl ∧ st.map Ent.p = stl.map Ent.p := by
  induction h with
  | here => exact ⟨List.mem_cons_self, List.mem_cons_self, rfl⟩
  | there _ ih => exact ⟨List.mem_cons_of_mem _ ih.1, List.mem_cons_of_mem _ ih.2.1, by rw [List.map_cons, List.map_cons, ih.2.2]⟩
theorem Lk.to {st stl : Sto} {p : Addr} {kvs : List (Int × D)} (h : Lk st p kvs stl) (nd : (st.map Ent.p).Nodup) : ∀ e ∈ stl, e = ⟨p, false, .dic kvs⟩ ∨ (e ∈ st ∧ e.p ≠ p) := by
  induction h with
  | here =>
    rw [List.map_cons, List.nodup_cons] at nd
    intro e he
    rcases List.mem_cons.mp he with z | z
    · exact .inl z
    · exact .inr ⟨List.mem_cons_of_mem _ z, fun q => nd.1 (List.mem_map.mpr ⟨e, z, q⟩)⟩
  | there h ih =>
    rw [List.map_cons, List.nodup_cons] at nd
    intro e he
    rcases List.mem_cons.mp he with rfl | z
    · exact .inr ⟨List.mem_cons_self, fun q => nd.1 (by rw [q]; exact List.mem_map.mpr ⟨_, h.mem.1, rfl⟩)⟩
    · rcases ih nd.2 e z with r | ⟨r1, r2⟩
      · exact .inl r
      · exact .inr ⟨List.mem_cons_of_mem _ r1, r2⟩
theorem Lk.back {st stl : Sto} {p : Addr} {kvs : List (Int × D)} (h : Lk st p kvs stl) (nd : (st.map Ent.p).Nodup) : ∀ e ∈ st, e = ⟨p, true, .dic kvs⟩ ∨ (e ∈ stl ∧ e.p ≠ p) := by
  induction h with
  | here =>
    rw [List.map_cons, List.nodup_cons] at nd
    intro e he
    rcases List.mem_cons.mp he with z | z
    · exact .inl z
    · exact .inr ⟨List.mem_cons_of_mem _ z, fun q => nd.1 (List.mem_map.mpr ⟨e, z, q⟩)⟩
  | there h ih =>
    rw [List.map_cons, List.nodup_cons] at nd
    intro e he
    rcases List.mem_cons.mp he with rfl | z
    · exact .inr ⟨List.mem_cons_self, fun q => nd.1 (by rw [q]; exact List.mem_map.mpr ⟨_, h.mem.1, rfl⟩)⟩
    · rcases ih nd.2 e z with r | ⟨r1, r2⟩
      · exact .inl r
      · exact .inr ⟨List.mem_cons_of_mem _ r1, r2⟩
/-- the dict stands locked in the frame's first heap -/
def LockedAt (K : PySem.W.Frag) (F : Fr) (p : Addr) (kvs : List (Int × D)) : Prop := p ∉ F.ps ∧ ∃ od ks, F.H0 p = some (.frz od (.dK ks)) ∧ KAts K F.H0 ks kvs
theorem SOk.lock {K : PySem.W.Frag} {F : Fr} {st stl : Sto} {H : Hp} (s : SOk K F st H) {p : Addr} {kvs : List (Int × D)} (hl : Lk st p kvs stl) : ∃ ks, H p = some (.dK ks) ∧ ∀ od, LockedAt K ⟨wr stl, upd H p (.frz od (.dK ks))⟩ p kvs ∧ TExt H (upd H p (.frz od (.dK ks))) ∧
    SOk K ⟨wr stl, upd H p (.frz od (.dK ks))⟩ stl (upd H p (.frz od (.dK ks))) ∧
    ∀ st' stU H', Lk stU p kvs st' → SOk K ⟨wr stl, upd H p (.frz od (.dK ks))⟩ st' H' → H' p = some (.frz od (.dK ks)) ∧ SOk K F stU (upd H' p (.dK ks)) ∧ TExt H' (upd H' p (.dK ks)) := by
  obtain ⟨m1, m2, m3⟩ := hl.mem
  obtain ⟨ks, hp, hk⟩ := s.objs _ m1
  refine ⟨ks, hp, fun od => ?_⟩
  have T : TExt H (upd H p (.frz od (.dK ks))) := .write hp trivial
  have ndl : (stl.map Ent.p).Nodup := by rw [← m3]; exact s.nd
  have np : p ∉ wr stl := fun h => by
    obtain ⟨o, ho⟩ := mem_wr.mp h
    rcases hl.to s.nd _ ho with z | ⟨_, z⟩
    · cases z
    · exact z rfl
  have inSt : ∀ q, q ∈ wr stl → q ∈ F.ps ∨ F.H0 q = none := fun q hq => by
    obtain ⟨o, ho⟩ := mem_wr.mp hq
    rcases hl.to s.nd _ ho with z | ⟨z, _⟩
    · cases z
    · exact s.own _ z rfl
  refine ⟨⟨np, od, ks, upd_same, hk.mono T⟩, T, ⟨fun b o _ e => e, .refl _, fun e he => ?_, ndl, fun e he hw => .inl ?_, fun b o e => ⟨o, e⟩⟩, fun st' stU H' hU s' => ?_⟩
  · rcases hl.to s.nd e he with rfl | ⟨he', ne⟩
    · exact ⟨ks, .inr ⟨od, upd_same⟩, hk.mono T⟩
    · exact (s.objs e he').keep (fun u q => by rw [upd_ne ne]; exact q) T
  · obtain ⟨q, b, o⟩ := e
    have hw : b = true := hw
    subst hw
    exact mem_wr.mpr ⟨o, he⟩
  · have hp' : H' p = some (.frz od (.dK ks)) := s'.ext p _ np upd_same
    have np2 : ∀ a v, H' a = some v → (¬ ∃ o u, v = .frz o (.dK u)) → a ≠ p := fun a v q nz e => nz ⟨od, ks, by rw [e, hp'] at q; cases q; rfl⟩
    have T2 : TExt H' (upd H' p (.dK ks)) := by
      refine ⟨fun a xs r => ?_, fun a o xs r => by rw [upd_ne (np2 a _ r (by rintro ⟨_, _, z⟩; cases z))]; exact r⟩
      rcases r with r | ⟨o, r⟩
      · exact .inl (by rw [upd_ne (np2 a _ r (by rintro ⟨_, _, z⟩; cases z))]; exact r)
      · exact .inr ⟨o, by rw [upd_ne (np2 a _ r (by rintro ⟨_, _, z⟩; cases z))]; exact r⟩
    obtain ⟨u1, u2, u3⟩ := hU.mem
    have ndU : (stU.map Ent.p).Nodup := by rw [u3]; exact s'.nd
    refine ⟨hp', ⟨fun b o hb e => ?_, (s.txt.trans T).trans (s'.txt.trans T2), fun e he => ?_, ndU, fun e he hw => ?_, fun b o e => ?_⟩, T2⟩
    · by_cases q : b = p
      · subst q
        rw [upd_same]
        have := s.ext b o hb e
        rw [hp] at this; exact this
      · rw [upd_ne q]
        refine s'.ext b o (fun z => ?_) (by show upd H p _ b = _; rw [upd_ne q]; exact s.ext b o hb e)
        rcases inSt b z with y | y
        · exact hb y
        · rw [y] at e; cases e
    · rcases hU.back ndU e he with rfl | ⟨he', ne⟩
      · exact ⟨ks, upd_same, ((hk.mono T).mono s'.txt).mono T2⟩
      · exact (s'.objs e he').keep (fun u q => by rw [upd_ne ne]; exact q) T2
    · rcases hU.back ndU e he with rfl | ⟨he', ne⟩
      · exact s.own _ m1 rfl
      · rcases s'.own e he' hw with z | z
        · exact inSt _ z
        · refine .inr (s.free ?_)
          have z : upd H p (.frz od (.dK ks)) e.p = none := z
          rw [upd_ne ne] at z; exact z
    · by_cases q : b = p
      · exact ⟨_, by rw [q]; exact upd_same⟩
      · obtain ⟨v, hv⟩ := s.live b o e
        obtain ⟨v2, hv2⟩ := s'.live b v (by show upd H p _ b = _; rw [upd_ne q]; exact hv)
        exact ⟨v2, by rw [upd_ne q]; exact hv2⟩
theorem ss_lock {s : Stmt} {p : Addr} {kvs : List (Int × D)} {stl : Sto} (hl : Lk st p kvs stl) (q : ∀ HL, LockedAt X.K ⟨wr stl, HL⟩ p kvs → SS X ⟨wr stl, HL⟩ s en stl (fun en' st' => ∃ stU, Lk stU p kvs st' ∧ Nn en' stU) (fun _ _ => False)) : SS X F s en st Nn R :=
  .intro fun σ H D a b n r => by
    obtain ⟨ks, hp, hk⟩ := a.lock hl
    refine ⟨_, ps_lock ps_any, p, _, hp, trivial, fun od => ?_⟩
    obtain ⟨k1, k2, k3, k4⟩ := hk od
    exact ⟨_, q _ k1, k3, b.mono k2, fun en' st' σ' H' ⟨stU, hU, qU⟩ a' b' t' => by
      obtain ⟨z1, z2, z3⟩ := k4 st' stU H' hU a'
      exact ⟨z1, n _ _ _ _ qU z2 (b'.mono z3) ((k2.trans t').trans z3)⟩, fun d st' v H' h => h.elim⟩
theorem ee_lock {e : Expr} {p : Addr} {kvs : List (Int × D)} {stl : Sto} {Q : D → Sto → Prop} (hl : Lk st p kvs stl) (q : ∀ HL, LockedAt X.K ⟨wr stl, HL⟩ p kvs → EE X ⟨wr stl, HL⟩ en e stl (fun d st' => ∃ stU, Lk stU p kvs st' ∧ Q d stU)) : EE X F en e st Q :=
  .intro fun σ H kk a b h => by
    obtain ⟨ks, hp, hk⟩ := a.lock hl
    refine ⟨_, pe_lock pe_any, p, _, hp, trivial, fun od => ?_⟩
    obtain ⟨k1, k2, k3, k4⟩ := hk od
    exact ⟨_, q _ k1, k3, b.mono k2, fun d st' v H' ⟨stU, hU, qU⟩ a' t' at' => by
      obtain ⟨z1, z2, z3⟩ := k4 st' stU H' hU a'
      exact ⟨z1, h _ _ _ _ qU z2 ((k2.trans t').trans z3) (at'.mono z3)⟩⟩
/-- d.values(), d locked -/
theorem ei_vals {tg e : Expr} {apos cpos : Pos} {p : Addr} {kvs : List (Int × D)} {Q : (Sto → Prop) → List D → Sto → Prop} (hF : LockedAt X.K F p kvs) (q : EE X F en e st fun d st1 => d = .ref p ∧ Q (fun _ => True) (kvs.map (·.2)) st1)
    (hbase : attributeBase e "values" X.env (eval e X.env) = eval e X.env := by rfl) (hline : (apos.endLine == cpos.line) = true := by rfl) : EI X F en tg (.Call (.Attribute e "values" apos) [] [] cpos) st Q :=
  .intro fun σ H R a b h => ⟨_, pi_values pe_any hbase hline, q.use a b fun d st1 v H1 ⟨e1, q1⟩ a1 t1 at1 => by
    subst e1
    obtain ⟨hn, od, ks, h0, hk⟩ := hF
    have at_ : ∀ H st, SOk X.K F st H → H p = some (.frz od (.dK ks)) := fun H st s => s.ext p _ hn h0
    refine ⟨p, od, ks, at_ref.mp at1, at_ H1 st1 a1, h _ _ _ _ _ q1 a1 t1 fun i H st t s _ => ⟨fun e => ⟨at_ H st s, by rw [hk.length]; simp at e; omega⟩, fun e => ⟨at_ H st s, by rw [hk.length]; simpa using e⟩, fun x H' y d hd => ?_⟩⟩
    obtain ⟨rfl, kk, y⟩ := y
    obtain ⟨v, hv, ha⟩ := (hk.mono s.txt).2.get hd
    rw [List.getElem?_map, y] at hv
    cases hv
    exact ⟨ha, s, .refl _⟩⟩
/-- d.items(), d locked -/
theorem ei_items {tg e : Expr} {apos cpos : Pos} {p : Addr} {kvs : List (Int × D)} {elts : List Expr} {kk : Nat} {tpos : Pos} {Q : (Sto → Prop) → List D → Sto → Prop} (hF : LockedAt X.K F p kvs) (q : EE X F en e st fun d st1 => d = .ref p ∧ Q (fun _ => True) (kvs.map fun kv => D.tup [.int kv.1, kv.2]) st1)
    (hbase : attributeBase e "items" X.env (eval e X.env) = eval e X.env := by rfl) (hline : (apos.endLine == cpos.line) = true := by rfl) : EI X F en (.Tuple elts kk tpos) (.Call (.Attribute e "items" apos) [] [] cpos) st Q :=
  .intro fun σ H R a b h => ⟨_, pi_items pe_any hbase hline, q.use a b fun d st1 v H1 ⟨e1, q1⟩ a1 t1 at1 => by
    subst e1
    obtain ⟨hn, od, ks, h0, hk⟩ := hF
    have at_ : ∀ H st, SOk X.K F st H → H p = some (.frz od (.dK ks)) := fun H st s => s.ext p _ hn h0
    refine ⟨p, od, ks, at_ref.mp at1, at_ H1 st1 a1, h _ _ _ _ _ q1 a1 t1 fun i H st t s _ => ⟨fun e => ⟨at_ H st s, by rw [hk.length]; simp at e; omega⟩, fun e => ⟨at_ H st s, by rw [hk.length]; simpa using e⟩, fun x H' y d hd => ?_⟩⟩
    obtain ⟨T, k0, v, y, rfl, hT, rfl⟩ := y
    rw [List.getElem?_map] at hd
    cases z : kvs[i]? with
    | none => rw [z] at hd; cases hd
    | some kv =>
      rw [z] at hd
      cases hd
      have hk' := hk.mono s.txt
      obtain ⟨v', hv, ha⟩ := hk'.2.get (i := i) (d := kv.2) (by rw [List.getElem?_map, z]; rfl)
      rw [List.getElem?_map, y] at hv
      cases hv
      have e2 := congrArg (fun l => l[i]?) hk'.1
      simp only [List.getElem?_map, y, z, Option.map_some, Option.some.injEq] at e2
      subst e2
      have tt : TExt H (upd H T (.tup [kV (Sum.inl kv.1), v])) := .laid hT
      exact ⟨at_tup.mpr ⟨T, _, rfl, SqT.of upd_same, ats_cons.mpr ⟨_, _, rfl, at_int.mpr rfl, .one (ha.mono tt)⟩⟩, s.alloc hT, tt⟩⟩
end G
end
section
set_option Elab.async false
set_option linter.all false
set_option maxRecDepth 100000
set_option maxHeartbeats 4000000
/-! R1: a tuple turned round by a slice, the place of nested data in a tuple. -/
namespace HT
open PySem PySem.Spec PyProof.Rows
section
variable {prog : Program} {w : World} {A : Around} {E : Value → Shared → Prop} {s : Shared}
theorem adjust_rev (n : Nat) : Builtin.Slice.sliceAdjust none none (-1) (n : Int) = ((n : Int) - 1, -1) := by
  unfold Builtin.Slice.sliceAdjust
  simp
theorem places_rev (n : Nat) : Builtin.Slice.slicePlaces ((n : Int) - 1) (-1) (-1) = n := by
  unfold Builtin.Slice.slicePlaces
  have h1 : ¬ ((-1 : Int) > 0) := by omega
  simp only [h1, if_false]
  have e : (- -1 : Int) = 1 := rfl
  rw [e, Int.ediv_one]
  split <;> omega
theorem sliceApplied_rev {sl : Addr} {vl vu vs : Value} {n : Nat} {Q : Int × Int × Nat → Shared → Prop} (hs : s.heap.IsSliceOf sl vl vu vs) (pl : IsPart vl none) (pu : IsPart vu none) (pv : IsPart vs (some (-1)))
    (h : Q ((n : Int) - 1, -1, n) s) : wpAny (model prog w) A (Builtin.Slice.sliceApplied (.ref sl) (pure (n : Int))) Q E s := by
  obtain ⟨os, hos, hcs, hds⟩ := id hs
  unfold Builtin.Slice.sliceApplied Builtin.Slice.sliceFields
  refine wpAny_bind (wpAny_bind (wpAny_field hos hds (x := vl) rfl (wpAny_bind (wpAny_field hos hds (x := vu) rfl (wpAny_bind (wpAny_field hos hds (x := vs) rfl (wpAny_pure ?_)))))))
  refine wpAny_bind (slicePart_ pv ?_)
  show wpAny _ _ (if ((-1 : Int) == 0) = true then _ else _) _ _ s
  rw [if_neg (by decide)]
  refine wpAny_bind (slicePart_ pl (wpAny_bind (slicePart_ pu (wpAny_bind (wpAny_pure ?_)))))
  show wpAny _ _ (match Builtin.Slice.sliceAdjust none none (-1) (n : Int) with | (lo, hi) => pure (lo, (-1 : Int), Builtin.Slice.slicePlaces lo hi (-1))) _ _ s
  rw [adjust_rev n]
  show wpAny _ _ (pure ((n : Int) - 1, (-1 : Int), Builtin.Slice.slicePlaces ((n : Int) - 1) (-1) (-1))) _ _ s
  rw [places_rev]
  exact wpAny_pure h
theorem pick_rev (xs : Array Value) : ((List.range xs.size).filterMap fun (m : Nat) => xs[(((xs.size : Nat) : Int) - 1 + (m : Int) * (-1)).toNat]?).toArray = xs.toList.reverse.toArray := by
  have e : (List.range xs.size).filterMap (fun (m : Nat) => xs[(((xs.size : Nat) : Int) - 1 + (m : Int) * (-1)).toNat]?) = ((List.range xs.size).map fun k => xs.size - 1 - k).filterMap (xs[·]?) := by
    rw [List.filterMap_map]
    congr 1
    funext m
    show xs[_]? = xs[xs.size - 1 - m]?
    congr 1
    omega
  rw [e, PySem.W.krv_range, List.filterMap_reverse, PySem.W.krv_all]
theorem getItem_tuple_rev {t sl : Addr} {items : Array Value} {vl vu vs : Value} {Q : Value → Shared → Prop} (ht : IsTup s.heap t items) (hs : s.heap.IsSliceOf sl vl vu vs) (pl : IsPart vl none) (pu : IsPart vu none) (pv : IsPart vs (some (-1)))
    (h : Q (.ref s.heap.objs.size) { s with heap := s.heap.push { cls := .type "tuple", data := .seq items.toList.reverse.toArray } })
    (hsz : items.size ≤ sizeLine) : wpAny (model prog w) A (getItem (.ref t) (.ref sl)) Q E s := by
  have htake : sizeOk (.seq items.toList.reverse.toArray) := by
    show items.toList.reverse.toArray.size ≤ sizeLine
    rw [List.size_toArray, List.length_reverse, Array.length_toList]
    exact hsz
  obtain ⟨os, hos, hcs, hds⟩ := id hs
  have hTs : s.TypeIs (.ref sl) "slice" := ⟨os, hos, hcs⟩
  unfold getItem
  try with_reducible refine wpAny_holding ?_
  first | refine wpAny_bind (wpAny_pure ?_) | skip
  refine wpAny_bind (wpAny_sequenceKey ht.typeIs (by decide) ?_)
  refine wpAny_bind (wpAny_callSpecial?_slot (name := Str.ofString "__getitem__") ht.typeIs PyProof.Rows.slot_tuple_getitem
    (wpAny_call_entry PyProof.Rows.slot_tuple_getitem ht.typeIs entry_tuple_getitem ?_ (args_tuple_getitem _ _)))
  show wpAny _ _ (Builtin.Tuple.tupleItemsOf (.ref t) >>= _) _ _ s
  refine wpAny_bind (tupleItemsOf_ ht ?_)
  refine wpAny_bind (wpAny_typeOf hTs ?_)
  rw [if_pos (by decide)]
  refine wpAny_bind (sliceApplied_rev hs pl pu pv ?_)
  have hno : ¬ (((((items.size : Nat) : Int) - 1) == 0 && (-1 : Int) == 1 && items.size == items.size) = true) := by
    intro q
    rw [Bool.and_eq_true, Bool.and_eq_true] at q
    exact absurd q.1.2 (by decide)
  show wpAny _ _ (if ((((items.size : Nat) : Int) - 1) == 0 && (-1 : Int) == 1 && items.size == items.size) = true then _ else _) _ _ s
  rw [if_neg hno, pick_rev]
  first
    | exact wpAny_bind (m := Builtin.Tuple.tupleExact _) (wpAny_newObj_type (wpAny_pure ⟨_, rfl, wpAny_pure h⟩) htake)
    | exact wpAny_bind (m := Builtin.Tuple.tupleExact _) (wpAny_newObj_type (wpAny_bind (wpAny_pure (wpAny_pure ⟨_, rfl, wpAny_pure h⟩))) htake)
    | exact wpAny_bind (wpAny_bind (m := Builtin.Tuple.tupleExact _) (wpAny_newObj_type (wpAny_pure (wpAny_pure ⟨_, rfl, wpAny_pure h⟩)) htake))
    | exact wpAny_bind (wpAny_bind (m := Builtin.Tuple.tupleExact _) (wpAny_newObj_type (wpAny_pure ⟨_, rfl, wpAny_pure h⟩) htake))
end
end HT
namespace L2
open PySem PySem.Spec PyProof.Rows
def tRevT (K : PySem.W.Frag) (te : TE) : TE := fun σ H Q => te σ H fun x H1 => ∃ a xs, x = .ref a ∧ SqT K H1 a xs ∧ ∀ p, H1 p = none → Q (.ref p) (upd H1 p (.tup xs.reverse))
theorem pe_revT {X : Cx} {e : Expr} {te : TE} {k : Nat} {p1 p2 p3 pos : Pos} (he : PE X e te) : PE X (.Subscript e (.Slice none none (some (.UnaryOp .USub (.Constant (.int 1) k p1) p2)) p3) pos) (tRevT X.K te) := by
  refine ⟨fun pins s σ H Q I h => ?_⟩
  refine Subscript_ (thn (he.run pins s σ H _ I h) fun v s1 ⟨x, H1, I1, r1, q1⟩ => ?_)
  obtain ⟨a, xs, ex, hx, q⟩ := q1
  subst ex
  cases r1
  have hst : PO X (some (.UnaryOp .USub (.Constant (.int 1) k p1) p2)) (tPart (tUn (rU fun i => .int (-i)) (tC (.int 1)))) := po_some (pe_un un_neg pe_int)
  refine wpAny_Slice (thn (po_none.run pins s1 σ H1 (fun o H2 => o = none ∧ H2 = H1) I1 ⟨rfl, rfl⟩) fun vl s2 ⟨l, H2, I2, pl, el, e2⟩ => ?_)
  subst el e2
  refine thn (po_none.run pins s2 σ H2 (fun o H3 => o = none ∧ H3 = H2) I2 ⟨rfl, rfl⟩) fun vu s3 ⟨u, H3, I3, pu, eu, e3⟩ => ?_
  subst eu e3
  refine thn (hst.run pins s3 σ H3 (fun o H4 => o = some (-1) ∧ H4 = H3) I3 ⟨1, rfl, -1, rfl, rfl, rfl⟩) fun vs s4 ⟨o, H4, I4, ps, eo, e4⟩ => ?_
  subst eo e4
  have I5 : Inv X pins σ H4 { s4 with heap := s4.heap.push { cls := .type "slice", data := .fields #[vl, vu, vs] } } := I4.kept (t' := s4.toks) fun b ob q => Heap.get?_push_of_some _ q
  obtain ⟨its, r, ht, hz⟩ := I5.tuple hx
  have hlen := r.length
  show wpAny (model X.prog X.w) X.A (subscriptTail e (.Slice none none (some (.UnaryOp .USub (.Constant (.int 1) k p1) p2)) p3) (.ref a) (.ref s4.heap.objs.size)) (EP X pins σ Q) X.xe { s4 with heap := s4.heap.push { cls := .type "slice", data := .fields #[vl, vu, vs] } }
  refine tail_any (ops := [.ref a, .ref s4.heap.objs.size]) ht.typeIs (PyProof.Rows.slot_tuple_getitem.lookup) ?_ (by with_unfolding_all rfl)
  refine HT.getItem_tuple_rev ht (Heap.IsSliceOf.new _ vl vu vs) pl pu ps ?_ (by rw [List.size_toArray]; omega)
  refine ⟨.ref _, _, I5.laid (t' := s4.toks) (o := .tup xs.reverse) (fun b ob q => Heap.get?_push_of_some _ q) (Nat.le_refl _) ?_, rfl, q _ (I5.hok.fresh (Nat.le_refl _))⟩
  exact ⟨by rw [List.length_reverse]; exact hz, _, r.reverse, IsTup.new _ _⟩
/-- t.index(x): the first place of an equal one -/
def rTIndexD (K : PySem.W.Frag) : V → List V → Hp → VK → Prop := fun x xs H Q => ∃ (a : Addr) (y : V) (d : PyData) (ds : List PyData) (j : Nat) (z : PyData), x = V.ref a ∧ xs = [y] ∧ Dp K H (V.ref a) (.tuple ds) ∧ Dp K H y d ∧
  SeqAt.shaped (.list ds) = true ∧ SeqAt.shaped d = true ∧ ds[j]? = some z ∧ PyData.eqv z d = true ∧ (∀ (m : Nat) (z' : PyData), m < j → ds[m]? = some z' → PyData.eqv z' d = false) ∧ Q (.int (j : Nat)) H
theorem mt_tindexD {X : Cx} (hu : X.A.units + 65 < cLine) : MtR X "tuple.index" (rTIndexD X.K) := by
  intro pins s σ H x xs v us Q I rx rxs h
  obtain ⟨a, y, d, ds, j, z, rfl, rfl, hl, hy, sl, sd, hz, hzj, hno, q⟩ := h
  cases rx
  cases rxs with
  | cons ry rt =>
    rename_i uy ut
    cases rt
    obtain ⟨bs, r1⟩ := Dp.reads I d y uy hy ry
    have hxs : PyData.canLayAll0 ds = true := SeqAt.canLay_of_shaped sl
    have hroom : X.A.units + 1 + min (PyData.depthAll ds) d.depth < cLine := room_in_shaped sd hu
    cases hl with
    | tup hs ha =>
      obtain ⟨its, rv, ⟨⟨cls, dd, data, sls⟩, ho, hc, n, hdt⟩, hlen⟩ := I.tuple hs
      simp only at hc hdt
      subst hc hdt
      obtain ⟨as, h4⟩ := Dp.readsAll I ds _ its ha rv
      have hn : its.length = ds.length := SeqAt.ReadsAll.length ds its as h4
      have hmap : its.map (SeqAt.readOf s.heap) = ds := SeqAt.readsAll_map ds its as hxs h4
      have hvl := rv.length
      have hsl := sizeLine_eq
      obtain ⟨hjd, _⟩ := List.getElem?_eq_some_iff.mp hz
      have hjl : j < its.length := by omega
      have hj : j < its.toArray.size := by simpa using hjl
      have at_ : ∀ (m : Nat) (hm : m < its.toArray.size) (z' : PyData), ds[m]? = some z' → SeqAt.readOf s.heap its.toArray[m] = z' := by
        intro m hm z' hz'
        have hml : m < its.length := by simpa using hm
        rw [← hmap, List.getElem?_map, List.getElem?_eq_getElem hml] at hz'
        have e1 : SeqAt.readOf s.heap its[m] = z' := Option.some.inj (show some (SeqAt.readOf s.heap its[m]) = some z' from hz')
        simpa using e1
      refine call_meets PySem.F.slot_tuple_index ⟨_, ho, rfl⟩ PySem.F.entry_tuple_index (PySem.F.args_tuple_index_2 _ _)
        (TI.tuple_indexAt a its.toArray n dd sls uy (fun u => PyData.eqv (SeqAt.readOf s.heap u) d) j hj ?_ ?_) ⟨ho, SeqAt.items_eqAt (vs := its.toArray) (show ReadsAll s.heap its.toArray.toList ds as from h4) r1 hxs (SeqAt.canLay_of_shaped sd) hroom, ?_⟩
      · show PyData.eqv (SeqAt.readOf s.heap its.toArray[j]) d = true
        rw [at_ j hj z hz]
        exact hzj
      · intro m hm hmj
        have hmd : m < ds.length := by omega
        have hz' : ds[m]? = some ds[m] := List.getElem?_eq_getElem hmd
        show PyData.eqv (SeqAt.readOf s.heap its.toArray[m]) d = false
        rw [at_ m hm _ hz']
        exact hno m _ hmj hz'
      · exact ⟨.int (j : Nat), H, I.tok _, ⟨_, rfl⟩, q⟩
end L2
end
section
set_option Elab.async false
set_option linter.all false
set_option maxRecDepth 100000
set_option maxHeartbeats 4000000
/-! G8: the last rules: joins, function values, instances, static tuples. -/
namespace G
open PySem L2
variable {X : Cx} {F : Fr} {en : Env} {st : Sto} {P : Program} {w : World} {K : PySem.W.Frag} {mg : Str → Option Value} {base : Heap} {N Gs : List Str} {Vi M : List Nat} {k : Nat}

/-! ### joins -/
theorem ee_mono {e : Expr} {Q Q' : D → Sto → Prop} (q : EE X F en e st Q') (h : ∀ d st', Q' d st' → Q d st') : EE X F en e st Q :=
  .intro fun σ H k a b c => q.use a b fun d st' v H' q' a' t' at' => c d st' v H' (h d st' q') a' t' at'
theorem et_mono {e : Expr} {Q Q' : Bool → Sto → Prop} (q : ET X F en e st Q') (h : ∀ d st', Q' d st' → Q d st') : ET X F en e st Q :=
  .intro fun σ H k a b c => q.use a b fun d st' H' q' a' t' => c d st' H' (h d st' q') a' t'
theorem ea_mono {e : List Expr} {Q Q' : List D → Sto → Prop} (q : EA X F en e st Q') (h : ∀ d st', Q' d st' → Q d st') : EA X F en e st Q :=
  .intro fun σ H k a b c => q.use a b fun d st' v H' q' a' t' at' => c d st' v H' (h d st' q') a' t' at'
theorem SS.use {s : Stmt} {N : Env → Sto → Prop} {R : D → Sto → Prop} {D : Ends} {σ : St} {H : Hp} (h : SS X F s en st N R) (a : SOk X.K F st H) (b : EnvAt X.K H σ en) (c : ∀ en' st' σ' H', N en' st' → SOk X.K F st' H' → EnvAt X.K H' σ' en' → TExt H H' → D.nx σ' H') (d : ∀ d st' v H', R d st' → SOk X.K F st' H' → At X.K H' v d → D.rt v H') : anyS X s D σ H := ⟨_, h, a, b, c, d⟩
theorem ss_mono {s : Stmt} {Nn N' : Env → Sto → Prop} {R : D → Sto → Prop} (q : SS X F s en st N' R) (h : ∀ en' st', N' en' st' → Nn en' st') : SS X F s en st Nn R :=
  .intro fun σ H D a b n r => q.use a b (fun en' st' σ' H' q' a' b' t' => n en' st' σ' H' (h _ _ q') a' b' t') r
theorem sl_mono {s : List Stmt} {Nn N' : Env → Sto → Prop} {R : D → Sto → Prop} (q : SL X F s en st N' R) (h : ∀ en' st', N' en' st' → Nn en' st') : SL X F s en st Nn R :=
  .intro fun σ H D a b n r => q.use a b (fun en' st' σ' H' q' a' b' t' => n en' st' σ' H' (h _ _ q') a' b' t') r
/-- fewer facts -/
inductive EWk : Env → Env → Prop
  | nil : EWk [] []
  | keep {d en en'} : EWk en en' → EWk (d :: en) (d :: en')
  | drop {d en en'} : EWk en en' → EWk (d :: en) (none :: en')
theorem EWk.refl : ∀ en : Env, EWk en en
  | [] => .nil
  | _ :: en => .keep (EWk.refl en)
theorem EWk.ok {en en' : Env} (h : EWk en en') : en'.length = en.length ∧ ∀ (i : Nat) d, en'[i]? = some (some d) → en[i]? = some (some d) := by
  induction h with
  | nil => exact ⟨rfl, fun i d e => e⟩
  | keep _ ih => exact ⟨by simp [ih.1], fun i d e => by cases i with | zero => exact e | succ i => exact ih.2 i d e⟩
  | drop _ ih => exact ⟨by simp [ih.1], fun i d e => by cases i with | zero => cases e | succ i => exact ih.2 i d e⟩
theorem sl_wk {s : List Stmt} {en' : Env} {st' : Sto} {Nn : Env → Sto → Prop} {R : D → Sto → Prop} (he : EWk en en') (hs : st'.Sublist st) (q : SL X F s en' st' Nn R) : SL X F s en st Nn R :=
  .intro fun σ H D a b n r => q.use (a.sub hs) (b.drop he.ok.1 he.ok.2) n r
theorem sl_st {s : List Stmt} {st' : Sto} {Nn : Env → Sto → Prop} {R : D → Sto → Prop} (hs : st'.Sublist st) (q : SL X F s en st' Nn R) : SL X F s en st Nn R := sl_wk (.refl _) hs q
/-- the store less than it was, at an expression -/
theorem ee_st {e : Expr} {st' : Sto} {Q : D → Sto → Prop} (hs : st'.Sublist st) (q : EE X F en e st' Q) : EE X F en e st Q :=
  .intro fun σ H k a b h => q.use (a.sub hs) b h
/-- a value put for an expression of the store: at its end the store may be less -/
theorem ee_out {e : Expr} {Q : D → Sto → Prop} (q : EE X F en e st fun d st1 => ∃ st2, st2.Sublist st1 ∧ Q d st2) : EE X F en e st Q :=
  .intro fun σ H k a b h => q.use a b fun d st' v H' ⟨st2, s, q'⟩ a' t' at' => h d st2 v H' q' (a'.sub s) t' at'
theorem et_out {e : Expr} {Q : Bool → Sto → Prop} (q : ET X F en e st fun d st1 => ∃ st2, st2.Sublist st1 ∧ Q d st2) : ET X F en e st Q :=
  .intro fun σ H k a b h => q.use a b fun d st' H' ⟨st2, s, q'⟩ a' t' => h d st2 H' q' (a'.sub s) t'

/-! ### name = [..], the name a local -/
theorem ss_setLc (c : Cg P w K mg base N Gs Vi M k X) {elt tg it : Expr} {ifs : List Expr} {scope : Scope} (own : List (Str × Nat)) {pos spos py : Pos} {i : Nat} {y : Str} {Nn : Env → Sto → Prop} {R : D → Sto → Prop} {G' : List Str} {V' : List Nat}
    (hN : N[i]? = some y) (hM : M.contains i = true) (hy : X.env.scope.names.lookup y = some .local) (hl : (py.line == pos.line) = true) (hna : (scope.names.any fun (n, k) => n == y && (k == .local || k == .cell)) = false)
    (ok : blkC N X.env.scope scope own = true) (hc : chkB X.env.scope scope N G' V' (own.map (·.2)) = true)
    (q : EI X F en tg it st fun src ds st1 => ∀ p, ∃ Pv : Nat → Sto → Prop, Pv 0 (⟨p, true, .lst []⟩ :: st1) ∧ (∀ i st2, i ≤ ds.length → Pv i st2 → src st2) ∧
      (∀ i d st2, ds[i]? = some d → Pv i st2 → ∀ X', Blk P w K mg base N G' V' (own.map (·.2)) k X' → EG X' F (own.map (·.2)) tg d (wipeE en (own.map (·.2))) st2 fun en3 st3 =>
        TurnOk (Blk P w K mg base N G' V' (own.map (·.2)) k) F p elt ifs en3 st3 (Pv (i + 1))) ∧
      ∀ st2, Pv ds.length st2 → ∃ en', ESet en i (.ref p) en' ∧ Nn en' st2)
    (hs : ∀ x, foldedSetIterable it X.env x = pure x := by intro _; rfl) : SS X F (.Assign [.Name y py] (.ListComp elt [⟨tg, it, ifs, 0⟩] scope pos) spos) en st Nn R := by
  have B : ∀ (s : Shared) (H : Hp) (C : Addr) (cl : List (Str × Addr)) (fp : List Addr), Blk P w K mg base N G' V' (own.map (·.2)) k (X.blk s H scope (compEnvC scope cl C X.env) fp) := fun s H C cl fp => ⟨c.eK, c.blk hc s H C cl fp⟩
  refine .intro fun σ H D s b n r => ⟨_, ps_setLc (i := i) (own := own) c.calm (by rw [c.eN]; exact c.nd) (by rw [c.eN]; exact hN) hy (sw_true c.kind hy hl hna) pi_any (blkOk_by (by rw [c.eN]; exact ok)) (fun s H C cl fp => pg_u (B s H C cl fp)) (fun s H C cl fp => pts_u (B s H C cl fp)) (fun s H C cl fp => pe_u (B s H C cl fp)) hs,
    q.use s b fun src ds st1 H1 J q1 a1 t1 wk => fun r0 hr => ?_⟩
  obtain ⟨Pv, p0, ps, pt, pe⟩ := q1 r0
  refine ⟨fun i m H' => m = ds.length - i ∧ i ≤ ds.length ∧ ∃ st2, Pv i st2 ∧ SOk X.K F st2 H' ∧ TExt H1 H', ⟨ds.length, by simp, Nat.zero_le _, _, p0, a1.new hr ⟨[], upd_same, ats_nil.mpr rfl⟩, .laid hr⟩, ?_⟩
  rintro i' m H2 ⟨rfl, hi, st2, p2, a2, t2⟩
  obtain ⟨w1, w2, w3⟩ := wk i' H2 st2 t2 a2 (ps i' st2 hi p2)
  by_cases hlt : i' < ds.length
  · refine .inr ⟨w2 hlt, fun H' => ∃ st2, Pv (i' + 1) st2 ∧ SOk X.K F st2 H' ∧ TExt H1 H', fun H' p' => ⟨ds.length - (i' + 1), by omega, rfl, hlt, p'⟩, fun x H' y => ?_⟩
    have hd : ds[i']? = some ds[i'] := by simp [hlt]
    obtain ⟨y1, y2, y3⟩ := w3 x H' y _ hd
    have item : ∀ en3 st3 σ3 H3, ItemOk (Blk P w K mg base N G' V' (own.map (·.2)) k) F r0 elt en3 st3 (Pv (i' + 1)) → SOk X.K F st3 H3 → EnvAt X.K H3 σ3 en3 → TExt H1 H3 →
        uE (Blk P w K mg base N G' V' (own.map (·.2)) k) elt σ3 H3 fun y H4 => ∃ acc, H4 r0 = some (.lst acc) ∧ acc.length < sizeLine ∧ ∃ st2, Pv (i' + 1) st2 ∧ SOk X.K F st2 (upd H4 r0 (.lst (acc ++ [y]))) ∧ TExt H1 (upd H4 r0 (.lst (acc ++ [y]))) := fun en3 st3 σ3 H3 io a3 b3 t3 => by
      refine ⟨tE K F en3 st3 fun d' st5 => ∃ acc st6, Put st5 r0 (.lst acc) (.lst (acc ++ [d'])) st6 ∧ acc.length < sizeLine ∧ Pv (i' + 1) st6, fun X' hX => by have := io X' hX; unfold EE at this; rw [hX.1] at this; exact this, by rw [← c.eK]; exact a3, by rw [← c.eK]; exact b3, ?_⟩
      rintro d' st5 v H4 ⟨acc, st6, hp, hl, q6⟩ a5 t5 at5
      rw [← c.eK] at a5 at5
      obtain ⟨xs, g1, g2, g3⟩ := a5.putL hp
      obtain ⟨g4, g5⟩ := g3 (xs ++ [v]) (g2.append (.one at5))
      exact ⟨xs, g1, by rw [g2.length]; exact hl, st6, q6, g4, (t3.trans t5).trans g5⟩
    refine ⟨tG K F (own.map (·.2)) ds[i'] (wipeE en (own.map (·.2))) st2 _, fun X' hX => by have := pt i' _ st2 hd p2 X' hX; unfold EG at this; rw [hX.1] at this; exact this, by rw [← c.eK]; exact y1, by rw [← c.eK]; exact y2, by rw [← c.eK]; exact (((b.mono t1).mono t2).mono y3).wipe _, ?_⟩
    rintro en3 st3 σ3 H3 tk a3 b3 t3 ⟨l1, l2⟩
    rw [← c.eK] at a3 b3
    refine ⟨wipe_same l1 l2, ?_⟩
    have t13 : TExt H1 H3 := (t2.trans y3).trans t3
    unfold TurnOk at tk
    split at tk
    · refine ⟨_, fun X' hX => pts_nil, ?_⟩
      simp only [if_true, tYes]
      exact item en3 st3 σ3 H3 tk a3 b3 t13
    · rename_i t
      refine ⟨tT K F en3 st3 _, fun X' hX => pts_one (by have := tk X' hX; unfold ET at this; rw [hX.1] at this; exact this), by rw [← c.eK]; exact a3, by rw [← c.eK]; exact b3, ?_⟩
      rintro bb st4 H4 ⟨k1, k2⟩ a4 t4
      rw [← c.eK] at a4
      cases bb with
      | true =>
        rw [if_pos rfl]
        exact item en3 st4 σ3 H4 (k1 rfl) a4 (b3.mono t4) (t13.trans t4)
      | false =>
        rw [if_neg Bool.false_ne_true]
        exact ⟨st4, k2 rfl, a4, t13.trans t4⟩
    · exact tk.elim
  · have e : i' = ds.length := by omega
    subst e
    refine .inl ⟨w1 rfl, ?_⟩
    obtain ⟨en', es, nn⟩ := pe st2 p2
    exact n en' st2 _ H2 nn a2 (by rw [es.eq]; exact ((b.mono t1).mono t2).set (at_ref.mpr rfl)) (t1.trans t2)

/-! ### function values -/
structure FV (P : Program) (w : World) (K : PySem.W.Frag) (mg : Str → Option Value) (base : Heap) (f : Addr) (k n : Nat) (W : Spec) : Prop where
  ex : ∃ (fd : FuncData) (ps : List Str), ps.length = n ∧ PySem.W.keepIn K (.ref f) = true ∧ Binds K fd ps [] ∧ FnOk P w K mg base CX0 k f fd ps (spW K n W)
/-- what calls of any kind come to -/
theorem called (c : Cg P w K mg base N Gs Vi M k X) {H H1 : Hp} {n : Nat} {W : Spec} {st1 want rest : Sto} {ds dds : List D} {dvs vs : List V} {R : D → Sto → Prop} {Q : D → Sto → Prop} {kk : VK}
    (a1 : SOk X.K F st1 H1) (at1 : Ats X.K H1 vs ds) (hda : Ats X.K H1 dvs dds) (t1 : TExt H H1) (tk : Tk st1 want rest) (hW : W want (ds ++ dds) R) (hl : (ds ++ dds).length = n) (q1 : ∀ d st', R d st' → Q d (st' ++ rest))
    (h : ∀ d st' v H', Q d st' → SOk X.K F st' H' → TExt H H' → At X.K H' v d → kk v H') : spW X.K n W (vs ++ dvs) H1 kk (fun _ _ _ => False) := by
  obtain ⟨_, p1, ⟨r, p2⟩, p3⟩ := tk.perm
  refine ⟨want, ds ++ dds, R, hW, hl, at1.append hda, fun e he => ?_, ?_, fun d st' v H' hR aw s' ha => ?_⟩
  · obtain ⟨b, hb, q⟩ := p3 e he
    have z := a1.objs _ hb
    obtain ⟨ep, ew, eo⟩ := e
    cases ew with
    | true => rw [q rfl] at z; exact z
    | false => exact z.read
  · have nd := (p2.nodup_iff).mp a1.nd
    rw [List.nodup_append] at nd
    exact nd.1
  · obtain ⟨z1, z2⟩ := a1.call tk aw s'
    exact h d _ v H' (q1 d st' hR) z1 (t1.trans z2) ha
/-- fe(e, ..), fe any expression that gives a def -/
theorem ee_callE (c : Cg P w K mg base N Gs Vi M k X) {j n : Nat} {W : Spec} {fe e : Expr} {es : List Expr} {pos : Pos} {Q : D → Sto → Prop} (hj : j ≤ k)
    (q : EE X F en fe st fun d st1 => ∃ f, d = .ref f ∧ FV P w K mg base f j n W ∧ EA X F en (e :: es) st1 fun ds st2 => ∃ want rest R, Tk st2 want rest ∧ W want ds R ∧ ds.length = n ∧ ∀ d st', R d st' → Q d (st' ++ rest))
    (hcall : eval (.Call fe (e :: es) [] pos) X.env = (do callWith pos (← eval fe X.env) [] (backTo pos (starEach (e :: es) X.env)) (backToKw pos (keywordEach [] X.env))) := by rfl)
    (he : starEach (e :: es) X.env = (false, eval e X.env) :: starEach es X.env := by rfl) (hpl : (backTo pos (starEach es X.env)).any (·.1) = false := by rfl) : EE X F en (.Call fe (e :: es) [] pos) st Q := by
  have hr := c.room
  obtain rfl := c.eprog
  obtain rfl := c.ew
  obtain rfl := c.eK
  obtain rfl := c.emg
  obtain rfl := c.ebase
  refine .intro fun σ H kk s b h => ⟨fun σ' H' k' => σ' = σ ∧ H' = H ∧ k' = kk, ⟨fun pins sh σ' H' k' I ⟨e1, e2, e3⟩ => ?_⟩, rfl, rfl, rfl⟩
  subst e1 e2 e3
  refine PyProof.Rows.Call_ (thn (pe_any.run pins sh σ' H' _ I (q.use s b (k := fun v H1 => ∃ f st1 vv, v = .ref f ∧ vv = v ∧ FV X.prog X.w X.K X.mg X.base f j n W ∧ SOk X.K F st1 H1 ∧ TExt H' H1 ∧ EA X F en (e :: es) st1 fun ds st2 => ∃ want rest R, Tk st2 want rest ∧ W want ds R ∧ ds.length = n ∧ ∀ d st', R d st' → Q d (st' ++ rest))
    fun d st1 v H1 ⟨f, e1, fv, q1⟩ a1 t1 at1 => by subst e1; exact ⟨f, st1, v, at_ref.mp at1, rfl, fv, a1, t1, q1⟩)) fun u s1 ⟨v, H1, I1, r1, f, st1, vv, e1, _, fv, a1, t1, q1⟩ => ?_) hcall
  subst e1
  obtain rfl : u = Value.ref f := r1
  obtain ⟨fd, ps, hn, hk, hb, G⟩ := fv.ex
  refine PySem.W.callWith_K (h₀ := X.base) I1.ok.mod.kin hk (thn (pa_any.run pos pins s1 σ' H1 (fun vs H2 => spW X.K n W (vs ++ []) H2 k' (fun _ _ _ => False)) I1 (q1.use a1 (b.mono t1) fun ds st2 vs H2 ⟨want, rest, R, tk, hW, hl, q2⟩ a2 t2 at2 => ?_)) fun us s2 ⟨vs, H2, I2, r, q2⟩ => ⟨I2.kIn, ?_⟩) he hpl
  · exact called (ds := ds) (dds := []) c a2 at2 (ats_nil.mpr rfl) (t1.trans t2) tk (by rw [List.append_nil]; exact hW) (by rw [List.append_nil]; exact hl) q2 h
  · exact run_fn G (hr.mono hj) hb .nil (fun _ _ _ _ _ _ _ z => z.elim) I2 r q2

/-! ### a static tuple's index -/
def GlT (K : PySem.W.Frag) (mg : Str → Option Value) (x : Str) (d : D) : Prop := ∃ p, mg x = some (.ref p) ∧ (∀ H, At K H (.ref p) d) ∧ ∃ o, K.lookup p = some o ∧ o.cls = .type "tuple" ∧ o.dict = none
theorem GlT.gl {x : Str} {d : D} (g : GlT K mg x d) : GlD K mg x d := by
  obtain ⟨p, h1, h2, _⟩ := g
  exact ⟨.ref p, .ref p, h1, rfl, h2⟩
theorem ee_tindex (c : Cg P w K mg base N Gs Vi M k X) {x : Str} {j : Nat} {ds : List D} {e : Expr} {p apos cpos : Pos} {Q : D → Sto → Prop} (g : GlT K mg x (.tup ds)) (hj : Gs[j]? = some x)
    (q : EE X F en e st fun d st1 => pls 58 ds = true ∧ pl 58 d = true ∧ ∃ i : Nat, ds[i]? = some d ∧ (∀ m, m < i → ds[m]? ≠ some d) ∧ Q (.int (i : Nat)) st1)
    (hbase : attributeBase (.Name x p) "index" X.env (eval (.Name x p) X.env) = eval (.Name x p) X.env)
    (hfew : ((backTo cpos (starEach [e] X.env)).all (fun x => !x.1) && (backToKw cpos (keywordEach [] X.env)).all (fun x => x.1.isSome)
      && decide (([e] : List Expr).length + ([] : List Keyword).length + (if ([] : List Keyword).isEmpty then 0 else 1) < 30)) = true := by rfl)
    (hline : (apos.endLine == cpos.line) = true := by rfl) (hs : starEach [e] X.env = (false, eval e X.env) :: starEach [] X.env := by rfl) : EE X F en (.Call (.Attribute (.Name x p) "index" apos) [e] [] cpos) st Q :=
  .intro fun σ H k s en' h => by
    obtain ⟨a, hm, hd, o, ho, hc, hn⟩ := g
    obtain ⟨h1, h2, h3⟩ := c.gl j x hj
    refine ⟨_, pe_bm PySem.F.plainAttrs_tuple PySem.F.slot_tuple_index PySem.F.type_tuple_index (mt_tindexD (room65 c.room)) (pe_glob (v := .ref a) h1 (by rw [c.emg]; exact hm) rfl h2) (pa_cons pe_any pa_nil hs) hbase hfew hline hs rfl, ?_⟩
    refine ⟨.inr (.inl ⟨rfl, o, by rw [c.eK]; exact ho, hc, hn⟩), q.use s en' fun d st1 v H1 ⟨p1, p2, i, hi, hno, q1⟩ a1 t1 at1 => ?_⟩
    have hA : At X.K H1 (.ref a) (.tup ds) := by rw [c.eK]; exact hd H1
    have z := pl_dp (.tup ds) 59 (.ref a) (by rw [pl_tup]; exact p1) hA
    rw [py_tup] at z
    refine ⟨a, v, py d, pys ds, i, py d, rfl, rfl, z, pl_dp d 58 v p2 at1, pls_shapedL p1 (by decide), pl_shaped p2 (by decide), by rw [pys_map, List.getElem?_map, hi]; rfl, (eqv_iff d d 58 58 p2 p2).mpr rfl, fun m z' hm' hz' => ?_, h _ _ _ _ q1 a1 t1 (at_int.mpr rfl)⟩
    rw [pys_map, List.getElem?_map] at hz'
    cases hz : ds[m]? with
    | none => rw [hz] at hz'; cases hz'
    | some dm =>
      rw [hz] at hz'
      cases hz'
      have hpm : pl 58 dm = true := pls_iff.mp p1 dm (List.mem_of_getElem? hz)
      cases hb : PyData.eqv (py dm) (py d) with
      | false => rfl
      | true => exact absurd (by rw [hz, (eqv_iff dm d 58 58 hpm p2).mp hb]) (hno m hm')
/-- t[::-1] -/
theorem ee_revT {a : Expr} {j : Nat} {p1 p2 p3 pos : Pos} {Q : D → Sto → Prop} (q : EE X F en a st fun d1 st1 => ∃ ds, d1 = .tup ds ∧ Q (.tup ds.reverse) st1) : EE X F en (.Subscript a (.Slice none none (some (.UnaryOp .USub (.Constant (.int 1) j p1) p2)) p3) pos) st Q :=
  .intro fun σ H k s e h => ⟨_, pe_revT pe_any, q.use s e fun d1 st1 v1 H1 ⟨ds, e1, q1⟩ a1 t1 at1 => by
    subst e1
    obtain ⟨p, xs, rfl, h1, h2⟩ := at_tup.mp at1
    exact ⟨p, xs, rfl, h1, fun r hr => h _ _ _ _ q1 (a1.alloc hr) (t1.trans (.laid hr)) (at_tup.mpr ⟨r, _, rfl, SqT.of upd_same, h2.reverse.mono (.laid hr)⟩)⟩⟩

/-! ### list(d.items()) -/
theorem SOk.grow {st : Sto} {H H' : Hp} (s : SOk K F st H) (g : ∀ b o, H b = some o → H' b = some o) : SOk K F st H' ∧ TExt H H' := by
  have T : TExt H H' := ⟨fun a xs r => by
    rcases r with r | ⟨o, r⟩
    · exact .inl (g _ _ r)
    · exact .inr ⟨o, g _ _ r⟩, fun a o xs r => g _ _ r⟩
  refine ⟨⟨fun b o hb e => g _ _ (s.ext b o hb e), s.txt.trans T, fun e he => (s.objs e he).keep (fun u q => g _ _ q) T, s.nd, s.own, fun b o e => ?_⟩, T⟩
  obtain ⟨v, hv⟩ := s.live b o e
  exact ⟨v, g _ _ hv⟩
theorem SOk.add {st : Sto} {H H' : Hp} (s : SOk K F st H') (s0 : SOk K F st H) {p : Addr} {o : SO} (h : H p = none) (ho : ObjAt K H' p true o) : SOk K F (⟨p, true, o⟩ :: st) H' :=
  ⟨s.ext, s.txt, fun e he => by
    rcases List.mem_cons.mp he with rfl | he
    · exact ho
    · exact s.objs e he, by
    rw [List.map_cons, List.nodup_cons]
    refine ⟨fun hm => ?_, s.nd⟩
    obtain ⟨e, he, q⟩ := List.mem_map.mp hm
    exact s0.ne h e he q, fun e he hw => by
    rcases List.mem_cons.mp he with rfl | he
    · exact .inr (s0.free h)
    · exact s.own e he hw, s.live⟩
theorem ats_items {H : Hp} : ∀ {ts : List Addr} {ks : List (Key × V)} {kvs : List (Int × D)}, Paired (fun (t : Addr) (q : Key × V) => H t = some (.tup [kV q.1, q.2])) ts ks → KAts K H ks kvs → Ats K H (ts.map V.ref) (kvs.map fun kv => D.tup [.int kv.1, kv.2])
  | _, _, [], .nil, _ => ats_nil.mpr rfl
  | _, _, kv :: kvs, .nil, h => by have := h.length; simp at this
  | _, _, [], .cons _ _, h => by have := h.length; simp at this
  | _, _, kv :: kvs, .cons r t, h => by
    obtain ⟨v, r', e, h1, h2⟩ := KAts.cons.mp h
    cases e
    exact ats_cons.mpr ⟨_, _, rfl, at_tup.mpr ⟨_, _, rfl, SqT.of r, ats_cons.mpr ⟨_, _, rfl, at_int.mpr rfl, .one h1⟩⟩, ats_items t h2⟩
theorem ee_listItems (c : Cg P w K mg base N Gs Vi M k X) {i : Nat} {e : Expr} {p pos apos cpos : Pos} {Q : D → Sto → Prop} (hg : Gs[i]? = some "list") (hm : mg "list" = none)
    (q : EE X F en e st fun d st1 => ∃ p kvs st2, d = .ref p ∧ Put st1 p (.dic kvs) (.dic kvs) st2 ∧ ∀ r, Q (.ref r) (⟨r, true, .lst (kvs.map fun kv => D.tup [.int kv.1, kv.2])⟩ :: st1))
    (hbase : attributeBase e "items" X.env (eval e X.env) = eval e X.env := by rfl) (hline : (apos.endLine == cpos.line) = true := by rfl)
    (hs : starEach [.Call (.Attribute e "items" apos) [] [] cpos] X.env = (false, eval (.Call (.Attribute e "items" apos) [] [] cpos) X.env) :: starEach [] X.env := by rfl) : EE X F en (.Call (.Name "list" p) [.Call (.Attribute e "items" apos) [] [] cpos] [] pos) st Q :=
  .intro fun σ H kk a b h => by
    obtain ⟨g1, g2, g3⟩ := c.gl i _ hg
    refine ⟨_, LiI.pe_listItems c.calm pe_any g1 (by rw [c.emg]; exact hm) (by rfl) hbase hline hs, q.use a b fun d st1 v H1 ⟨p, kvs, st2, e1, hp, q1⟩ a1 t1 at1 => ?_⟩
    subst e1
    obtain ⟨ks, h1, h2⟩ := a1.objs _ hp.mem
    refine ⟨p, ks, at_ref.mp at1, h1, fun H' r ts g hr hts hpt hl hpd => ?_⟩
    obtain ⟨s2, t2⟩ := a1.grow g
    exact h _ _ _ _ (q1 r) (s2.add a1 hr ⟨_, hl, ats_items hpd (h2.mono t2)⟩) (t1.trans t2) (at_ref.mpr rfl)

/-! ### instances -/
def setF (f : Str) (d : D) : List (Str × D) → List (Str × D)
  | [] => [(f, d)]
  | (g, x) :: r => if g = f then (g, d) :: r else (g, x) :: setF f d r
theorem FAts.nil {H : Hp} {vs : List (Str × V)} (h : FAts K H vs []) : vs = [] := List.map_eq_nil_iff.mp h.1
theorem FAts.cons {H : Hp} {vs : List (Str × V)} {g : Str} {d : D} {fs : List (Str × D)} : FAts K H vs ((g, d) :: fs) ↔ ∃ v r, vs = (g, v) :: r ∧ At K H v d ∧ FAts K H r fs := by
  constructor
  · rintro ⟨h1, h2⟩
    cases vs with
    | nil => simp at h1
    | cons x r =>
      obtain ⟨g', v⟩ := x
      simp only [List.map_cons, List.cons.injEq] at h1 h2
      obtain ⟨v', r', e, h3, h4⟩ := ats_cons.mp h2
      injection e with e1 e2
      subst e1 e2
      obtain ⟨rfl, h1⟩ := h1
      exact ⟨v, r, rfl, h3, h1, h4⟩
  · rintro ⟨v, r, rfl, h1, h2, h3⟩
    exact ⟨by simp [h2], by simp only [List.map_cons]; exact ats_cons.mpr ⟨_, _, rfl, h1, h3⟩⟩
theorem FAts.put {H : Hp} {f : Str} {v : V} {d : D} (a : At K H v d) : ∀ {fs : List (Str × D)} {vs : List (Str × V)}, FAts K H vs fs → FAts K H (putF f v vs) (setF f d fs)
  | [], vs, h => by
    rw [h.nil]
    exact FAts.cons.mpr ⟨_, _, rfl, a, rfl, ats_nil.mpr rfl⟩
  | (g, x) :: r, vs, h => by
    obtain ⟨v1, r1, rfl, h1, h2⟩ := FAts.cons.mp h
    unfold putF setF
    by_cases e : g = f
    · rw [if_pos e, if_pos e]; exact FAts.cons.mpr ⟨_, _, rfl, a, h2⟩
    · rw [if_neg e, if_neg e]; exact FAts.cons.mpr ⟨_, _, rfl, h1, h2.put a⟩
theorem FAts.look {H : Hp} {f : Str} : ∀ {fs : List (Str × D)} {vs : List (Str × V)}, FAts K H vs fs → (∀ d, fs.lookup f = some d → ∃ v, vs.lookup f = some v ∧ At K H v d) ∧ (fs.lookup f = none → vs.lookup f = none)
  | [], vs, h => by rw [h.nil]; exact ⟨fun d e => (by cases e), fun _ => rfl⟩
  | (g, x) :: r, vs, h => by
    obtain ⟨v1, r1, rfl, h1, h2⟩ := FAts.cons.mp h
    obtain ⟨i1, i2⟩ := h2.look (f := f)
    simp only [List.lookup_cons]
    by_cases e : (f == g) = true
    · rw [e]
      exact ⟨fun d q => ⟨v1, rfl, by cases q; exact h1⟩, fun q => by cases q⟩
    · rw [Bool.not_eq_true] at e
      rw [e]
      exact ⟨i1, i2⟩
theorem FAts.mono {H H' : Hp} (t : TExt H H') {vs : List (Str × V)} {fs : List (Str × D)} (h : FAts K H vs fs) : FAts K H' vs fs := ⟨h.1, h.2.mono t⟩
theorem FAts.length {H : Hp} {vs : List (Str × V)} {fs : List (Str × D)} (h : FAts K H vs fs) : vs.length = fs.length := by
  have := congrArg List.length h.1
  simpa using this
theorem SOk.insAt {st : Sto} {H : Hp} (s : SOk K F st H) {p C dx : Addr} {fs : List (Str × D)} (h : Has st p (.ins C dx fs)) : ∃ vs, H p = some (.ins C dx vs) ∧ FAts K H vs fs := by
  have := s.has h
  simpa only [ObjAt] using this
theorem ee_fld {e : Expr} {f : Str} {pos : Pos} {Q : D → Sto → Prop} (q : EE X F en e st fun d st1 => ∃ p C dx fs d', d = .ref p ∧ Has st1 p (.ins C dx fs) ∧ Cls X.K C ∧ NoAttr X.K C f ∧ fs.lookup f = some d' ∧ Q d' st1)
    (hb : attributeBase e f X.env (eval e X.env) = eval e X.env := by rfl) : EE X F en (.Attribute e f pos) st Q :=
  .intro fun σ H k a b h => ⟨_, pe_fld pe_any hb, q.use a b fun d st1 v H1 ⟨p, C, dx, fs, d', e1, hh, hc, hn, hl, q1⟩ a1 t1 at1 => by
    subst e1
    obtain ⟨vs, h1, h2⟩ := a1.insAt hh
    obtain ⟨v', hv, ha⟩ := h2.look.1 d' hl
    exact ⟨p, C, dx, vs, v', at_ref.mp at1, h1, hc, hn, hv, h _ _ _ _ q1 a1 t1 ha⟩⟩
theorem SOk.putI {st st' : Sto} {H : Hp} (s : SOk K F st H) {p C dx : Addr} {f : Str} {d : D} {v : V} {fs : List (Str × D)} (h : Put st p (.ins C dx fs) (.ins C dx (setF f d fs)) st') (a : At K H v d) : ∃ vs, H p = some (.ins C dx vs) ∧ vs.length = fs.length ∧
    SOk K F st' (upd H p (.ins C dx (putF f v vs))) ∧ TExt H (upd H p (.ins C dx (putF f v vs))) := by
  obtain ⟨vs, h1, h2⟩ := s.objs _ h.mem
  have T : TExt H (upd H p (.ins C dx (putF f v vs))) := .write h1 trivial
  refine ⟨vs, h1, h2.length, s.put h ⟨_, upd_same, (h2.put a).mono T⟩⟩
theorem ss_fld {e value : Expr} {f : Str} {pos pos' : Pos} {Nn : Env → Sto → Prop} {R : D → Sto → Prop} (q : EE X F en value st fun d st1 => EE X F en e st1 fun d2 st2 => ∃ p C dx fs st3, d2 = .ref p ∧ Put st2 p (.ins C dx fs) (.ins C dx (setF f d fs)) st3 ∧ Cls X.K C ∧ NoAttr X.K C f ∧ fs.length < 1000 ∧ Nn en st3)
    (hs : swapsWith value (some (.Attribute e f pos')) pos.line X.env = pure false := by rfl) : SS X F (.Assign [.Attribute e f pos'] value pos) en st Nn R :=
  .intro fun σ H D a b n r => ⟨_, ps_fld pe_any pe_any hs, q.use a b fun d st1 v H1 q1 a1 t1 at1 => EE.use q1 a1 (b.mono t1) fun d2 st2 v2 H2 ⟨p, C, dx, fs, st3, e1, hp, hc, hn, hl, q2⟩ a2 t2 at2 => by
    subst e1
    obtain ⟨vs, h1, h2, h3, h4⟩ := a2.putI hp (at1.mono t2)
    exact ⟨p, C, dx, vs, at_ref.mp at2, h1, hc, hn, by omega, n _ _ _ _ q2 h3 (((b.mono t1).mono t2).mono h4) ((t1.trans t2).trans h4)⟩⟩
def gFld (K : PySem.W.Frag) (ta : TE) (f : Str) : TG := fun y σ H k => ta σ H fun x H2 => ∃ a C dx fs, x = .ref a ∧ H2 a = some (.ins C dx fs) ∧ Cls K C ∧ NoAttr K C f ∧ fs.length < 1000 ∧ k σ (upd H2 a (.ins C dx (putF f y fs)))
theorem pg_fld {X : Cx} {o : Expr} {f : Str} {pos : Pos} {ta : TE} (ha : PE X o ta) : PG X (.Attribute o f pos) (gFld X.K ta f) := by
  refine ⟨fun pins s σ H v u Q I r h => ?_⟩
  refine PySem.W.kas_attr (thn (ha.run pins s σ H _ I h) fun ov s2 ⟨x, H2, I2, rx, a, C, dx, fs, ex, ea, c, n, l, q2⟩ => ?_)
  subst ex
  obtain rfl : ov = Value.ref a := rx
  exact setattr_ok I2 ea c n l r fun s3 I3 => ⟨σ, _, I3, q2⟩
theorem eg_fld {vs : List Nat} {e : Expr} {f : Str} {pos : Pos} {d : D} {Q : Env → Sto → Prop} (q : EE X F en e st fun d2 st2 => ∃ p C dx fs st3, d2 = .ref p ∧ Put st2 p (.ins C dx fs) (.ins C dx (setF f d fs)) st3 ∧ Cls X.K C ∧ NoAttr X.K C f ∧ fs.length < 1000 ∧ Q en st3) : EG X F vs (.Attribute e f pos) d en st Q :=
  .intro fun v σ H k a0 a b h => ⟨_, pg_fld pe_any, q.use a b fun d2 st2 v2 H2 ⟨p, C, dx, fs, st3, e1, hp, hc, hn, hl, q2⟩ a2 t2 at2 => by
    subst e1
    obtain ⟨vs, h1, h2, h3, h4⟩ := a2.putI hp (a0.mono t2)
    exact ⟨p, C, dx, vs, at_ref.mp at2, h1, hc, hn, by omega, h _ _ _ _ q2 h3 ((b.mono t2).mono h4) (t2.trans h4) ⟨rfl, fun _ _ => rfl⟩⟩⟩
/-- a method -/
structure Mt (P : Program) (w : World) (K : PySem.W.Frag) (mg : Str → Option Value) (base : Heap) (C : Addr) (m : Str) (k n : Nat) (W : Spec) : Prop where
  ex : ∃ (f : Addr) (fd : FuncData) (ps : List Str), ps.length = n ∧ Meth K C m f ∧ Binds K fd ps [] ∧ FnOk P w K mg base CX0 k f fd ps (spW K n W)
theorem ee_meth (c : Cg P w K mg base N Gs Vi M k X) {C : Addr} {m : Str} {j n : Nat} {W : Spec} (f : Mt P w K mg base C m j n W) (hC : Cls K C) {o e : Expr} {es : List Expr} {apos pos : Pos} {pl : Sem Bool} {Q : D → Sto → Prop} (hj : j ≤ k)
    (q : EE X F en o st fun d st1 => ∃ p dx fs, d = .ref p ∧ Has st1 p (.ins C dx fs) ∧ fs.lookup m = none ∧ EA X F en (e :: es) st1 fun ds st2 => ∃ want rest R, Tk st2 want rest ∧ W want (.ref p :: ds) R ∧ ds.length + 1 = n ∧ ∀ d st', R d st' → Q d (st' ++ rest))
    (he : starEach (e :: es) X.env = (false, eval e X.env) :: starEach es X.env := by rfl) (hpl : (backTo pos (starEach es X.env)).any (·.1) = false := by rfl)
    (ht : eval (.Call (.Attribute o m apos) (e :: es) [] pos) X.env = (do
      let ov ← eval o X.env
      standAt apos.atName
      let (f, first) ← holding [ov] (getMethod ov m pl)
      callWith pos f first (backTo pos (starEach (e :: es) X.env)) (backToKw pos (keywordEach [] X.env))) := by rfl) : EE X F en (.Call (.Attribute o m apos) (e :: es) [] pos) st Q := by
  obtain ⟨fa, fd, ps, hn, hm, hb, G⟩ := f.ex
  have hr := c.room
  obtain rfl := c.eprog
  obtain rfl := c.ew
  obtain rfl := c.eK
  obtain rfl := c.emg
  obtain rfl := c.ebase
  refine .intro fun σ H kk s b h => ⟨_, pe_meth (E := E0) (dvs := []) pe_any hC hm G (hr.mono hj) hb .nil pass0 pa_any he hpl ht, q.use s b fun d st1 v H1 ⟨p, dx, fs, e1, hh, hl, q1⟩ a1 t1 at1 => ?_⟩
  subst e1
  obtain ⟨vs, h1, h2⟩ := a1.insAt hh
  refine ⟨p, dx, vs, at_ref.mp at1, h1, h2.look.2 hl, q1.use a1 (b.mono t1) fun ds st2 vs2 H2 ⟨want, rest, R, tk, hW, hl2, q2⟩ a2 t2 at2 => ?_⟩
  exact called (ds := .ref p :: ds) (dds := []) (vs := v :: vs2) c a2 (ats_cons.mpr ⟨_, _, rfl, at1.mono t2, at2⟩) (ats_nil.mpr rfl) (t1.trans t2) tk (by rw [List.append_nil]; exact hW) (by rw [List.append_nil]; exact hl2) q2 h
theorem ee_meth0 (c : Cg P w K mg base N Gs Vi M k X) {C : Addr} {m : Str} {j n : Nat} {W : Spec} (f : Mt P w K mg base C m j n W) (hC : Cls K C) {o : Expr} {apos pos : Pos} {pl : Sem Bool} {Q : D → Sto → Prop} (hj : j ≤ k)
    (q : EE X F en o st fun d st1 => ∃ p dx fs, d = .ref p ∧ Has st1 p (.ins C dx fs) ∧ fs.lookup m = none ∧ ∃ want rest R, Tk st1 want rest ∧ W want [.ref p] R ∧ 1 = n ∧ ∀ d st', R d st' → Q d (st' ++ rest))
    (ht : eval (.Call (.Attribute o m apos) [] [] pos) X.env = (do
      let ov ← eval o X.env
      standAt apos.atName
      let (f, first) ← holding [ov] (getMethod ov m pl)
      callWith pos f first (backTo pos (starEach [] X.env)) (backToKw pos (keywordEach [] X.env))) := by rfl) : EE X F en (.Call (.Attribute o m apos) [] [] pos) st Q := by
  obtain ⟨fa, fd, ps, hn, hm, hb, G⟩ := f.ex
  have hr := c.room
  obtain rfl := c.eprog
  obtain rfl := c.ew
  obtain rfl := c.eK
  obtain rfl := c.emg
  obtain rfl := c.ebase
  refine .intro fun σ H kk s b h => ⟨_, pe_meth0 (E := E0) (dvs := []) pe_any hC hm G (hr.mono hj) hb .nil pass0 ht, q.use s b fun d st1 v H1 ⟨p, dx, fs, e1, hh, hl, want, rest, R, tk, hW, hl2, q2⟩ a1 t1 at1 => ?_⟩
  subst e1
  obtain ⟨vs, h1, h2⟩ := a1.insAt hh
  refine ⟨p, dx, vs, at_ref.mp at1, h1, h2.look.2 hl, ?_⟩
  exact called (ds := [.ref p]) (dds := []) (vs := [v]) (dvs := []) c a1 (.one at1) (ats_nil.mpr rfl) t1 tk hW hl2 q2 h
/-- a class with its __init__ -/
structure Mkr (P : Program) (w : World) (K : PySem.W.Frag) (mg : Str → Option Value) (base : Heap) (x : Str) (C : Addr) (k n : Nat) (W : Spec) : Prop where
  ex : ∃ (f : Addr) (fd : FuncData) (ps : List Str), mg x = some (.ref C) ∧ ps.length = n ∧ Mk K C f ∧ Binds K fd ps [] ∧ FnOk P w K mg base CX0 k f fd ps (spW K n W)
theorem ee_make (c : Cg P w K mg base N Gs Vi M k X) {x : Str} {C : Addr} {i j n : Nat} {W : Spec} (f : Mkr P w K mg base x C j n W) {e : Expr} {es : List Expr} {p pos : Pos} {Q : D → Sto → Prop} (hj : j + 1 ≤ k) (hg : Gs[i]? = some x)
    (q : EA X F en (e :: es) st fun ds st1 => ∀ p dx, ∃ want rest R, Tk (⟨p, true, .ins C dx []⟩ :: st1) want rest ∧ W want (.ref p :: ds) R ∧ ds.length + 1 = n ∧ ∀ d st', R d st' → d = .non ∧ Q (.ref p) (st' ++ rest))
    (he : starEach (e :: es) X.env = (false, eval e X.env) :: starEach es X.env := by rfl) (hpl : (backTo pos (starEach es X.env)).any (·.1) = false := by rfl) : EE X F en (.Call (.Name x p) (e :: es) [] pos) st Q := by
  obtain ⟨fa, fd, ps, hmx, hn, hm, hb, G⟩ := f.ex
  obtain ⟨g1, g2, g3⟩ := c.gl i x hg
  have hr := c.room
  obtain rfl := c.eprog
  obtain rfl := c.ew
  obtain rfl := c.eK
  obtain rfl := c.emg
  obtain rfl := c.ebase
  refine .intro fun σ H kk s b h => ⟨_, pe_make (E := E0) (dvs := []) hm G (hr.mono hj) g1 hmx hb .nil pass0 pa_any g2 he hpl, q.use s b fun ds st1 vs H1 q1 a1 t1 at1 => fun r dx hr1 hr2 hne => ?_⟩
  obtain ⟨want, rest, R, tk, hW, hl, q2⟩ := q1 r dx
  have s1 := a1.alloc (p := dx) (o := .own r) hr2
  have tA : TExt H1 (upd H1 dx (.own r)) := .laid hr2
  have hr1' : (upd H1 dx (.own r)) r = none := by rw [upd_ne (Ne.symm hne)]; exact hr1
  have s2 := s1.new (p := r) (u := .ins C dx []) (o := .ins C dx []) hr1' ⟨[], upd_same, rfl, ats_nil.mpr rfl⟩
  have tB : TExt (upd H1 dx (.own r)) (upd (upd H1 dx (.own r)) r (.ins C dx [])) := .laid hr1'
  exact called (Q := fun d st' => d = .non ∧ Q (.ref r) st') (H := H) (ds := .ref r :: ds) (dds := []) (vs := .ref r :: vs) (dvs := []) c s2 (ats_cons.mpr ⟨_, _, rfl, at_ref.mpr rfl, (at1.mono tA).mono tB⟩) (ats_nil.mpr rfl) ((t1.trans tA).trans tB) tk (by rw [List.append_nil]; exact hW) (by rw [List.append_nil]; exact hl) q2
    fun d st' v H' ⟨e1, qq⟩ a' t' at' => by
      subst e1
      exact ⟨at_non.mp at', h _ _ _ _ qq a' t' (at_ref.mpr rfl)⟩
end G
end
section
set_option Elab.async false
set_option linter.all false
set_option maxRecDepth 100000
set_option maxHeartbeats 4000000
namespace G
open PySem L2
def top (i : Nat) : Stmt := PySem.Challenge.pw_gridsym_k47_whole_connections.main.body.getD i (.Pass ⟨0, 0, 0, 0⟩)
abbrev FunT (K : PySem.W.Frag) (x : Str) (i : Nat) (dvs : List V) (f : Addr) (fd : FuncData) : Prop := FunD K x x (defArgs (top i)) (defBody (top i)) (defScope (top i)) dvs [] f fd
def clsB : Stmt → List Stmt
  | .ClassDef (body := b) .. => b
  | _ => []
def topm (i j : Nat) : Stmt := (clsB (top i)).getD j (.Pass ⟨0, 0, 0, 0⟩)
end G
end
section
set_option Elab.async false
set_option linter.all false
set_option maxRecDepth 100000
set_option maxHeartbeats 4000000
/-! M1: the plain mathematics: kinds, symmetries, lattices (no program in sight). -/
namespace G
abbrev V2 := Int × Int
abbrev Sy := Fin 8 × V2
/-- the matrices -/
def LIN (k : Fin 8) : Int × Int × Int × Int :=
  match k.val with
  | 0 => (1, 0, 0, 1)
  | 1 => (0, -1, 1, 0)
  | 2 => (-1, 0, 0, -1)
  | 3 => (0, 1, -1, 0)
  | 4 => (-1, 0, 0, 1)
  | 5 => (0, -1, -1, 0)
  | 6 => (1, 0, 0, -1)
  | _ => (0, 1, 1, 0)
def lin (k : Fin 8) (v : V2) : V2 := ((LIN k).1 * v.1 + (LIN k).2.1 * v.2, (LIN k).2.2.1 * v.1 + (LIN k).2.2.2 * v.2)
/-- first a, then b -/
def kmul (a b : Fin 8) : Fin 8 :=
  Fin.ofNat 8 (4 * ((a.val / 4 + b.val / 4) % 2) + ((if b.val > 3 then 8 - a.val % 4 else a.val % 4) + b.val) % 4)
def kinv (a : Fin 8) : Fin 8 := if a.val > 3 then a else Fin.ofNat 8 ((4 - a.val) % 4)
def vadd (v w : V2) : V2 := (v.1 + w.1, v.2 + w.2)
def vsub (v w : V2) : V2 := (v.1 - w.1, v.2 - w.2)
def vneg (v : V2) : V2 := (-v.1, -v.2)
def smul (n : Int) (v : V2) : V2 := (n * v.1, n * v.2)
def img (s : Sy) (p : V2) : V2 := vadd (lin s.1 p) s.2
def mul (a b : Sy) : Sy := (kmul a.1 b.1, img b a.2)
def one : Sy := (0, (0, 0))
def inv (s : Sy) : Sy := (kinv s.1, vneg (lin (kinv s.1) s.2))
/-! ### kinds -/
theorem kall {p : Fin 8 → Prop} (h : p 0 ∧ p 1 ∧ p 2 ∧ p 3 ∧ p 4 ∧ p 5 ∧ p 6 ∧ p 7) (k : Fin 8) : p k := by
  obtain ⟨h0, h1, h2, h3, h4, h5, h6, h7⟩ := h
  match k with
  | 0 => exact h0
  | 1 => exact h1
  | 2 => exact h2
  | 3 => exact h3
  | 4 => exact h4
  | 5 => exact h5
  | 6 => exact h6
  | 7 => exact h7
theorem kmul_assoc : ∀ a b c : Fin 8, kmul (kmul a b) c = kmul a (kmul b c) := by decide +kernel
theorem kmul_one : ∀ a : Fin 8, kmul a 0 = a := by decide +kernel
theorem one_kmul : ∀ a : Fin 8, kmul 0 a = a := by decide +kernel
theorem kmul_inv : ∀ a : Fin 8, kmul a (kinv a) = 0 := by decide +kernel
theorem inv_kmul : ∀ a : Fin 8, kmul (kinv a) a = 0 := by decide +kernel
theorem kmul4 : ∀ a b : Fin 8, kmul (kmul (kmul (kmul a b) b) b) b = a := by decide +kernel
theorem LIN_inj : ∀ a b : Fin 8, LIN a = LIN b → a = b := by decide +kernel
theorem LIN_small : ∀ k : Fin 8, ((LIN k).1 = 0 ∨ (LIN k).1 = 1 ∨ (LIN k).1 = -1) ∧ ((LIN k).2.1 = 0 ∨ (LIN k).2.1 = 1 ∨ (LIN k).2.1 = -1) ∧ ((LIN k).2.2.1 = 0 ∨ (LIN k).2.2.1 = 1 ∨ (LIN k).2.2.1 = -1) ∧ ((LIN k).2.2.2 = 0 ∨ (LIN k).2.2.2 = 1 ∨ (LIN k).2.2.2 = -1) := by decide +kernel
theorem LIN_kmul : ∀ a b : Fin 8, LIN (kmul a b) = ((LIN b).1 * (LIN a).1 + (LIN b).2.1 * (LIN a).2.2.1, (LIN b).1 * (LIN a).2.1 + (LIN b).2.1 * (LIN a).2.2.2, (LIN b).2.2.1 * (LIN a).1 + (LIN b).2.2.2 * (LIN a).2.2.1, (LIN b).2.2.1 * (LIN a).2.1 + (LIN b).2.2.2 * (LIN a).2.2.2) := by decide +kernel
theorem v2_ext {v w : V2} (h1 : v.1 = w.1) (h2 : v.2 = w.2) : v = w := Prod.ext h1 h2
theorem lin_kmul (a b : Fin 8) (v : V2) : lin (kmul a b) v = lin b (lin a v) := by
  refine v2_ext ?_ ?_ <;> simp only [lin, LIN_kmul, Int.add_mul, Int.mul_add, Int.mul_assoc] <;> omega
theorem lin_one (v : V2) : lin 0 v = v := by refine v2_ext ?_ ?_ <;> simp [lin, LIN]
theorem lin_add (k : Fin 8) (v w : V2) : lin k (vadd v w) = vadd (lin k v) (lin k w) := by
  refine v2_ext ?_ ?_ <;> simp only [lin, vadd, Int.mul_add] <;> omega
theorem lin_sub (k : Fin 8) (v w : V2) : lin k (vsub v w) = vsub (lin k v) (lin k w) := by
  refine v2_ext ?_ ?_ <;> simp only [lin, vsub, Int.mul_sub] <;> omega
theorem lin_neg (k : Fin 8) (v : V2) : lin k (vneg v) = vneg (lin k v) := by
  refine v2_ext ?_ ?_ <;> simp only [lin, vneg, Int.mul_neg] <;> omega
theorem lin_zero (k : Fin 8) : lin k (0, 0) = (0, 0) := by refine v2_ext ?_ ?_ <;> simp [lin]
theorem lin_smul (k : Fin 8) (n : Int) (v : V2) : lin k (smul n v) = smul n (lin k v) := by
  refine v2_ext ?_ ?_ <;> simp only [lin, smul, Int.mul_add]
  · rw [Int.mul_left_comm, Int.mul_left_comm (LIN k).2.1]
  · rw [Int.mul_left_comm, Int.mul_left_comm (LIN k).2.2.2]
theorem lin_inv (k : Fin 8) (v : V2) : lin (kinv k) (lin k v) = v := by rw [← lin_kmul, kmul_inv, lin_one]
theorem lin_inv' (k : Fin 8) (v : V2) : lin k (lin (kinv k) v) = v := by rw [← lin_kmul, inv_kmul, lin_one]
/-! ### symmetries -/
theorem img_mul (a b : Sy) (p : V2) : img (mul a b) p = img b (img a p) := by
  show vadd (lin (kmul a.1 b.1) p) (vadd (lin b.1 a.2) b.2) = vadd (lin b.1 (vadd (lin a.1 p) a.2)) b.2
  rw [lin_kmul, lin_add]
  refine v2_ext ?_ ?_ <;> simp only [vadd] <;> omega
theorem img_one (p : V2) : img one p = p := by
  show vadd (lin 0 p) (0, 0) = p
  rw [lin_one]
  refine v2_ext ?_ ?_ <;> simp [vadd]
theorem mul_assoc (a b c : Sy) : mul (mul a b) c = mul a (mul b c) := by
  refine Prod.ext (kmul_assoc _ _ _) ?_
  show img c (img b a.2) = img (mul b c) a.2
  rw [img_mul]
theorem mul_one (a : Sy) : mul a one = a := by
  refine Prod.ext (kmul_one _) ?_
  exact img_one a.2
theorem one_mul (a : Sy) : mul one a = a := by
  refine Prod.ext (one_kmul _) ?_
  show vadd (lin a.1 (0, 0)) a.2 = a.2
  rw [lin_zero]
  refine v2_ext ?_ ?_ <;> simp [vadd]
theorem mul_inv (a : Sy) : mul a (inv a) = one := by
  refine Prod.ext (kmul_inv _) ?_
  show vadd (lin (kinv a.1) a.2) (vneg (lin (kinv a.1) a.2)) = (0, 0)
  refine v2_ext ?_ ?_ <;> simp only [vadd, vneg] <;> omega
theorem inv_mul (a : Sy) : mul (inv a) a = one := by
  refine Prod.ext (inv_kmul _) ?_
  show vadd (lin a.1 (vneg (lin (kinv a.1) a.2))) a.2 = (0, 0)
  rw [lin_neg, lin_inv']
  refine v2_ext ?_ ?_ <;> simp only [vadd, vneg] <;> omega
theorem img_inv (a : Sy) (p : V2) : img (inv a) (img a p) = p := by rw [← img_mul, mul_inv, img_one]
theorem img_inv' (a : Sy) (p : V2) : img a (img (inv a) p) = p := by rw [← img_mul, inv_mul, img_one]
theorem mul_right_cancel {a b c : Sy} (h : mul a c = mul b c) : a = b := by
  have := congrArg (fun x => mul x (inv c)) h
  simp only [mul_assoc, mul_inv, mul_one] at this
  exact this
theorem mul_left_cancel {a b c : Sy} (h : mul c a = mul c b) : a = b := by
  have := congrArg (fun x => mul (inv c) x) h
  simp only [← mul_assoc, inv_mul, one_mul] at this
  exact this
theorem inv_of {a b : Sy} (h : mul a b = one) : b = inv a := mul_left_cancel (c := a) (by rw [h, mul_inv])
theorem inv_inv (a : Sy) : inv (inv a) = a := (inv_of (inv_mul a)).symm
theorem inv_mulr (a b : Sy) : inv (mul a b) = mul (inv b) (inv a) := by
  refine (inv_of ?_).symm
  rw [mul_assoc, ← mul_assoc b, mul_inv, one_mul, mul_inv]
theorem inv_one : inv one = one := (inv_of (mul_one one)).symm
/-- the group a list generates -/
inductive InG (gs : List Sy) : Sy → Prop
  | one : InG gs one
  | mul {a g : Sy} : InG gs a → g ∈ gs → InG gs (mul a g)
  | inv {a g : Sy} : InG gs a → g ∈ gs → InG gs (mul a (inv g))
theorem InG.gen {gs : List Sy} {g : Sy} (h : g ∈ gs) : InG gs g := by have := InG.mul .one h; rwa [one_mul] at this
theorem InG.mul' {gs : List Sy} {a b : Sy} (ha : InG gs a) (hb : InG gs b) : InG gs (G.mul a b) := by
  induction hb with
  | one => rw [mul_one]; exact ha
  | mul _ hg ih => rw [← mul_assoc]; exact ih.mul hg
  | inv _ hg ih => rw [← mul_assoc]; exact ih.inv hg
theorem InG.inv' {gs : List Sy} {a : Sy} (ha : InG gs a) : InG gs (G.inv a) := by
  induction ha with
  | one => rw [inv_one]; exact .one
  | mul _ hg ih =>
    rw [inv_mulr]
    have := InG.inv .one hg
    rw [one_mul] at this
    exact this.mul' ih
  | inv _ hg ih =>
    rw [inv_mulr, inv_inv]
    exact (InG.gen hg).mul' ih
theorem InG.sub {gs hs : List Sy} (h : ∀ g ∈ gs, InG hs g) {a : Sy} (ha : InG gs a) : InG hs a := by
  induction ha with
  | one => exact .one
  | mul _ hg ih => exact ih.mul' (h _ hg)
  | inv _ hg ih => exact ih.mul' (h _ hg).inv'
theorem mul_shift (l : V2) (s : Sy) : G.mul (0, l) s = (s.1, vadd (lin s.1 l) s.2) := by
  refine Prod.ext (one_kmul _) rfl
theorem shift_mul (l : V2) (s : Sy) : G.mul s (0, l) = (s.1, vadd s.2 l) := by
  refine Prod.ext (kmul_one _) ?_
  show vadd (lin 0 s.2) l = _
  rw [lin_one]
theorem inv_shift (l : V2) : inv (0, l) = (0, vneg l) := by
  have h0 : kinv 0 = 0 := by decide
  refine Prod.ext h0 ?_
  show vneg (lin (kinv 0) l) = vneg l
  rw [h0, lin_one]
/-! ### powers as the program makes them -/
def rep (s : Sy) : Nat → Sy
  | 0 => one
  | n + 1 => mul (rep s n) s
def pw (s : Sy) (e : Int) : Sy :=
  if s.1 = 1 ∨ s.1 = 3 then rep s (e.fmod 4).toNat
  else if e.fmod 2 = 1 then mul (0, vadd (0, 0) (smul (e.fdiv 2) (rep s 2).2)) s else (0, vadd (0, 0) (smul (e.fdiv 2) (rep s 2).2))
theorem rep1 (s : Sy) : rep s 1 = s := one_mul s
theorem rep2 (s : Sy) : rep s 2 = mul s s := by show mul (rep s 1) s = _; rw [rep1]
theorem sq_kind : ∀ k : Fin 8, ¬ (k = 1 ∨ k = 3) → kmul k k = 0 := by decide +kernel
theorem vadd0 (v : V2) : vadd (0, 0) v = v := by refine v2_ext ?_ ?_ <;> simp [vadd]
theorem smul0 (v : V2) : smul 0 v = (0, 0) := by refine v2_ext ?_ ?_ <;> simp [smul]
theorem smul1 (v : V2) : smul 1 v = v := by refine v2_ext ?_ ?_ <;> simp [smul]
theorem pw1 (s : Sy) : pw s 1 = s := by
  unfold pw
  by_cases h : s.1 = 1 ∨ s.1 = 3
  · rw [if_pos h]
    exact rep1 s
  · rw [if_neg h, if_pos (by decide)]
    have : (1 : Int).fdiv 2 = 0 := by decide
    rw [this, smul0, vadd0]
    exact one_mul s
theorem pw2 (s : Sy) : pw s 2 = mul s s := by
  unfold pw
  by_cases h : s.1 = 1 ∨ s.1 = 3
  · rw [if_pos h]
    exact rep2 s
  · rw [if_neg h, if_neg (by decide)]
    have e : (2 : Int).fdiv 2 = 1 := by decide
    rw [e, smul1, vadd0, rep2]
    exact Prod.ext (sq_kind _ h).symm rfl
theorem rot4 : ∀ k : Fin 8, (k = 1 ∨ k = 3) → kmul (kmul (kmul k k) k) k = 0 := by decide +kernel
theorem rep4 (s : Sy) (h : s.1 = 1 ∨ s.1 = 3) : mul (rep s 3) s = one := by
  have e3 : rep s 3 = mul (mul s s) s := by show mul (rep s 2) s = _; rw [rep2]
  rw [e3]
  obtain ⟨k, v⟩ := s
  refine Prod.ext (rot4 k h) ?_
  have l1 : LIN 1 = (0, -1, 1, 0) := rfl
  have l3 : LIN 3 = (0, 1, -1, 0) := rfl
  rcases (show k = 1 ∨ k = 3 from h) with rfl | rfl
  · refine v2_ext ?_ ?_ <;> simp [mul, img, vadd, lin, l1, one] <;> omega
  · refine v2_ext ?_ ?_ <;> simp [mul, img, vadd, lin, l3, one] <;> omega
theorem pw_neg1 (s : Sy) : pw s (-1) = inv s := by
  unfold pw
  by_cases h : s.1 = 1 ∨ s.1 = 3
  · rw [if_pos h]
    show rep s 3 = inv s
    exact (by rw [inv_inv] : inv (inv (rep s 3)) = rep s 3) ▸ congrArg inv (inv_of (rep4 s h)).symm
  · rw [if_neg h, if_pos (by decide)]
    have e : (-1 : Int).fdiv 2 = -1 := by decide
    have e2 : rep s 2 = (0, (rep s 2).2) := Prod.ext (by rw [rep2]; exact sq_kind _ h) rfl
    have e3 : (0, vadd (0, 0) (smul (-1) (rep s 2).2)) = inv (rep s 2) := by
      rw [e2, inv_shift, vadd0]
      refine Prod.ext rfl ?_
      refine v2_ext ?_ ?_ <;> simp only [smul, vneg] <;> omega
    rw [e, e3, rep2, inv_mulr, mul_assoc, inv_mul, mul_one]
theorem pw_shift (v : V2) (e : Int) : pw (0, v) e = (0, smul e v) := by
  unfold pw
  rw [if_neg (show ¬ ((0 : Fin 8) = 1 ∨ (0 : Fin 8) = 3) by decide)]
  have e2 : (rep (0, v) 2).2 = smul 2 v := by
    rw [rep2, mul_shift]
    show vadd (lin 0 v) v = _
    rw [lin_one]
    refine v2_ext ?_ ?_ <;> simp only [vadd, smul] <;> omega
  rw [e2, vadd0]
  have h1 := Int.fmod_add_mul_fdiv e 2
  have h2 := Int.fmod_nonneg_of_pos e (show (0 : Int) < 2 by decide)
  have h3 := Int.fmod_lt_of_pos e (show (0 : Int) < 2 by decide)
  have sm : ∀ x : Int, e.fdiv 2 * (2 * x) = (2 * e.fdiv 2) * x := fun x => by rw [← Int.mul_assoc, Int.mul_comm (e.fdiv 2)]
  by_cases h : e.fmod 2 = 1
  · rw [if_pos h, mul_shift]
    refine Prod.ext rfl ?_
    show vadd (lin 0 _) v = _
    rw [lin_one]
    have he : e = 2 * e.fdiv 2 + 1 := by omega
    refine v2_ext ?_ ?_ <;> simp only [vadd, smul, sm]
    · conv => rhs; rw [he, Int.add_mul, Int.one_mul]
    · conv => rhs; rw [he, Int.add_mul, Int.one_mul]
  · rw [if_neg h]
    refine Prod.ext rfl ?_
    have he : e = 2 * e.fdiv 2 := by omega
    refine v2_ext ?_ ?_ <;> simp only [smul, sm]
    · rw [← he]
    · rw [← he]
end G
end
section
set_option Elab.async false
set_option linter.all false
set_option maxRecDepth 100000
set_option maxHeartbeats 4000000
/-! G9: data of the program, pure promises, bounds. -/
namespace G
open PySem L2
/-! ### data -/
def dK (k : Fin 8) : D := .int (k.val : Nat)
def dV (v : V2) : D := .tup [.int v.1, .int v.2]
def dS (s : Sy) : D := .tup [dK s.1, .int s.2.1, .int s.2.2]
def dVs (vs : List V2) : D := .tup (vs.map dV)
def dG (gs : List Sy) : D := .tup (gs.map dS)
theorem dV_inj {v w : V2} (h : dV v = dV w) : v = w := by
  unfold dV at h
  injection h with h
  injection h with h1 h2
  injection h2 with h2 h3
  injection h1 with h1
  injection h2 with h2
  exact Prod.ext h1 h2
theorem dK_inj {a b : Fin 8} (h : dK a = dK b) : a = b := by
  unfold dK at h
  injection h with h
  exact Fin.ext (by omega)
theorem dS_inj {v w : Sy} (h : dS v = dS w) : v = w := by
  unfold dS at h
  injection h with h
  injection h with h1 h2
  injection h2 with h2 h3
  injection h3 with h3 h4
  injection h2 with h2
  injection h3 with h3
  exact Prod.ext (dK_inj h1) (Prod.ext h2 h3)
theorem map_inj {α β : Type} {f : α → β} (hf : ∀ a b, f a = f b → a = b) : ∀ {xs ys : List α}, xs.map f = ys.map f → xs = ys
  | [], [], _ => rfl
  | [], _ :: _, h => by simp at h
  | _ :: _, [], h => by simp at h
  | x :: xs, y :: ys, h => by
    simp only [List.map_cons, List.cons.injEq] at h
    rw [hf _ _ h.1, map_inj hf h.2]
theorem dVs_inj {v w : List V2} (h : dVs v = dVs w) : v = w := by
  unfold dVs at h
  injection h with h
  exact map_inj (fun _ _ => dV_inj) h
theorem mem_map_iff {α β : Type} {f : α → β} (hf : ∀ a b, f a = f b → a = b) {x : α} {xs : List α} : f x ∈ xs.map f ↔ x ∈ xs := by
  rw [List.mem_map]
  exact ⟨fun ⟨y, h1, h2⟩ => hf _ _ h2 ▸ h1, fun h => ⟨x, h, rfl⟩⟩
theorem pl_dV {n : Nat} (v : V2) : pl (n + 1) (dV v) = true := by simp [dV, pl, pls]
theorem pl_dS {n : Nat} (v : Sy) : pl (n + 1) (dS v) = true := by simp [dS, dK, pl, pls]
theorem pls_dVl {n : Nat} (v : List V2) : pls (n + 1) (v.map dV) = true := pls_iff.mpr fun d h => by obtain ⟨v, _, rfl⟩ := List.mem_map.mp h; exact pl_dV v
theorem pls_dSl {n : Nat} (v : List Sy) : pls (n + 1) (v.map dS) = true := pls_iff.mpr fun d h => by obtain ⟨v, _, rfl⟩ := List.mem_map.mp h; exact pl_dS v
theorem pls_ints {n : Nat} (v : List Int) : pls n (v.map D.int) = true := pls_iff.mpr fun d h => by obtain ⟨v, _, rfl⟩ := List.mem_map.mp h; exact pl_int
theorem pls_dKl {n : Nat} (v : List (Fin 8)) : pls n (v.map dK) = true := pls_iff.mpr fun d h => by obtain ⟨v, _, rfl⟩ := List.mem_map.mp h; exact pl_int
theorem pl_dVs {n : Nat} (v : List V2) : pl (n + 2) (dVs v) = true := by show pl (n + 1 + 1) (.tup _) = true; rw [pl_tup]; exact pls_dVl v
theorem pl_dG {n : Nat} (v : List Sy) : pl (n + 2) (dG v) = true := by show pl (n + 1 + 1) (.tup _) = true; rw [pl_tup]; exact pls_dSl v
/-! ### pure promises -/
def Pu (f : List D → (D → Prop) → Prop) : Spec := fun want ds R => want = [] ∧ ∃ p, f ds p ∧ R = fun d st => p d ∧ st = []
section
variable {X : Cx} {F : Fr} {en : Env} {st : Sto} {P : Program} {w : World} {K : PySem.W.Frag} {mg : Str → Option Value} {base : Heap} {N Gs : List Str} {Vi M : List Nat} {k : Nat}
theorem ee_pcall (c : Cg P w K mg base N Gs Vi M k X) {x : Str} {i j n : Nat} {dds : List D} {f : List D → (D → Prop) → Prop} (h : Fn P w K mg base x j n dds (Pu f)) {e : Expr} {es : List Expr} {p pos : Pos} {Q : D → Sto → Prop} (hj : j ≤ k) (hg : Gs[i]? = some x)
    (q : EA X F en (e :: es) st fun ds st1 => ∃ p, f (ds ++ dds) p ∧ (ds ++ dds).length = n ∧ ∀ d, p d → Q d st1)
    (he : starEach (e :: es) X.env = (false, eval e X.env) :: starEach es X.env := by rfl) (hpl : (backTo pos (starEach es X.env)).any (·.1) = false := by rfl) : EE X F en (.Call (.Name x p) (e :: es) [] pos) st Q :=
  ee_call c h hj hg (ea_mono q fun ds st1 ⟨p, h1, h2, h3⟩ => ⟨[], st1, _, .nil _, ⟨rfl, p, h1, rfl⟩, h2, fun d st' ⟨h4, h5⟩ => by subst h5; exact h3 d h4⟩) he hpl
theorem op_mulO : OpR X (binaryOp .Mult) (rI IntMulOk fun i j => .int (i * j)) := opI fun _ _ _ _ _ _ _ hc q => PyProof.Rows.mul_int q hc
theorem ee_mulO {a b : Expr} {pos} {Q : D → Sto → Prop} (q : EE X F en a st fun d1 st1 => EE X F en b st1 fun d2 st2 => ∃ i j, d1 = .int i ∧ d2 = .int j ∧ IntMulOk i j ∧ Q (.int (i * j)) st2) : EE X F en (.BinOp a .Mult b pos) st Q :=
  ee_op2 op_mulO (fun d1 d2 st' x y H k ⟨i, j, e1, e2, c, q⟩ s a1 a2 h => by subst e1; subst e2; exact ⟨i, j, at_int.mp a1, at_int.mp a2, c, h _ _ _ _ q s (.refl H) (at_int.mpr rfl)⟩) q
/-- the way of a test that is settled -/
theorem isT {A B : Prop} (h : A) : (true = true → A) ∧ (true = false → B) := ⟨fun _ => h, fun z => nomatch z⟩
theorem isF {A B : Prop} (h : B) : (false = true → A) ∧ (false = false → B) := ⟨fun z => (nomatch z), fun _ => h⟩
end
/-! ### bounds -/
def Bt (n : Nat) (i : Int) : Prop := i.natAbs < 2 ^ n
theorem Bt.mono {n m : Nat} {i : Int} (h : Bt n i) (hn : n ≤ m) : Bt m i := Nat.lt_of_lt_of_le h (Nat.pow_le_pow_right (by decide) hn)
theorem Bt.add {n m k : Nat} {i j : Int} (h : Bt n i) (g : Bt m j) (hn : n < k) (hm : m < k) : Bt k (i + j) := by
  have h1 := Bt.mono h (Nat.le_sub_one_of_lt hn)
  have h2 := Bt.mono g (Nat.le_sub_one_of_lt hm)
  unfold Bt at *
  have e : 2 ^ k = 2 ^ (k - 1) + 2 ^ (k - 1) := by rw [← Nat.two_mul, ← Nat.pow_succ']; congr 1; omega
  omega
theorem Bt.neg {n : Nat} {i : Int} (h : Bt n i) : Bt n (-i) := by unfold Bt at *; omega
theorem Bt.sub {n m k : Nat} {i j : Int} (h : Bt n i) (g : Bt m j) (hn : n < k) (hm : m < k) : Bt k (i - j) := by rw [Int.sub_eq_add_neg]; exact h.add g.neg hn hm
theorem Bt.mul {n m : Nat} {i j : Int} (h : Bt n i) (g : Bt m j) : Bt (n + m) (i * j) := by
  unfold Bt at *
  rw [Int.natAbs_mul, Nat.pow_add]
  exact Nat.mul_lt_mul'' h g
theorem Bt.log {n : Nat} {i : Int} (h : Bt n i) : i.natAbs.log2 ≤ n := by
  unfold Bt at h
  by_cases h0 : i.natAbs = 0
  · rw [h0]; exact Nat.zero_le _
  · exact Nat.le_of_lt ((Nat.log2_lt h0).mpr h)
theorem Bt.mulOk {n m : Nat} {i j : Int} (h : Bt n i) (g : Bt m j) (hn : n + m < 1000000) : IntMulOk i j :=
  CMulW.ok (show i.natAbs.log2 + j.natAbs.log2 < 1000000 by have := h.log; have := g.log; omega)
theorem Bt.divOk {m : Nat} {i j : Int} (g : Bt m j) (h0 : j ≠ 0) (hn : m < 9000) : CDivA i j := ⟨h0, by have := g.log; omega⟩
theorem Bt.fmod {m : Nat} {i j : Int} (g : Bt m j) (h0 : j ≠ 0) : Bt m (i.fmod j) := by
  unfold Bt at *
  rcases Int.lt_or_gt_of_ne h0 with h | h
  · have e : i.fmod j = -((-i).fmod (-j)) := by rw [Int.neg_fmod_neg]; omega
    have h1 := Int.fmod_nonneg_of_pos (-i) (show 0 < -j by omega)
    have h2 := Int.fmod_lt_of_pos (-i) (show 0 < -j by omega)
    omega
  · have h1 := Int.fmod_nonneg_of_pos i h
    have h2 := Int.fmod_lt_of_pos i h
    omega
theorem natAbs_fdiv_le (i j : Int) : (i.fdiv j).natAbs ≤ i.natAbs := by
  by_cases h0 : j = 0
  · subst h0; simp
  · rcases Int.lt_or_gt_of_ne h0 with h | h
    · have e : i.fdiv j = (-i).fdiv (-j) := by rw [Int.neg_fdiv_neg]
      rw [e]
      have h1 := Int.fmod_add_mul_fdiv (-i) (-j)
      have h2 := Int.fmod_nonneg_of_pos (-i) (show 0 < -j by omega)
      have h3 := Int.fmod_lt_of_pos (-i) (show 0 < -j by omega)
      generalize (-i).fdiv (-j) = q at *
      generalize (-i).fmod (-j) = r at *
      by_cases hq : 0 ≤ q
      · have : q * 1 ≤ q * (-j) := Int.mul_le_mul_of_nonneg_left (by omega) hq
        rw [Int.mul_comm] at this
        have e2 : -j * q = q * -j := Int.mul_comm _ _
        omega
      · have : (-q - 1) * 1 ≤ (-q - 1) * (-j) := Int.mul_le_mul_of_nonneg_left (by omega) (by omega)
        have e2 : (-q - 1) * (-j) = -(-j * q) - (-j) := by rw [Int.sub_mul, Int.neg_mul, Int.mul_comm q, Int.one_mul]
        omega
    · have h1 := Int.fmod_add_mul_fdiv i j
      have h2 := Int.fmod_nonneg_of_pos i h
      have h3 := Int.fmod_lt_of_pos i h
      generalize i.fdiv j = q at *
      generalize i.fmod j = r at *
      by_cases hq : 0 ≤ q
      · have : q * 1 ≤ q * j := Int.mul_le_mul_of_nonneg_left (by omega) hq
        have e2 : j * q = q * j := Int.mul_comm _ _
        omega
      · have : (-q - 1) * 1 ≤ (-q - 1) * j := Int.mul_le_mul_of_nonneg_left (by omega) (by omega)
        have e2 : (-q - 1) * j = -(j * q) - j := by rw [Int.sub_mul, Int.neg_mul, Int.mul_comm q, Int.one_mul]
        omega
theorem Bt.fdiv {n : Nat} {i j : Int} (h : Bt n i) : Bt n (i.fdiv j) := Nat.lt_of_le_of_lt (natAbs_fdiv_le i j) h
/-- a factor of few bits -/
theorem mulS1 {i j : Int} (h : i.natAbs < 2 ^ 64) : IntMulOk i j := CMul.ok (.inl (by constructor <;> omega))
theorem mulS2 {i j : Int} (h : j.natAbs < 2 ^ 64) : IntMulOk i j := CMul.ok (.inr (by constructor <;> omega))
theorem mulL {i j : Int} (h : i = 0 ∨ i = 1 ∨ i = -1) : IntMulOk i j := mulS1 (by rcases h with rfl | rfl | rfl <;> decide)
/-! ### the module's names -/
structure MB (mg : Str → Option Value) : Prop where
  abs : mg "abs" = none
  len : mg "len" = none
  all : mg "all" = none
  tuple : mg "tuple" = none
  list : mg "list" = none
  max : mg "max" = none
  min : mg "min" = none
  int : mg "int" = none
  str : mg "str" = none
  bool : mg "bool" = none
  isinstance : mg "isinstance" = none
  sorted : mg "sorted" = none
  set : mg "set" = none
  range : mg "range" = none
  enumerate : mg "enumerate" = none
def linD (k : Fin 8) : D := .tup [.int (LIN k).1, .int (LIN k).2.1, .int (LIN k).2.2.1, .int (LIN k).2.2.2]
def kinds : List (Fin 8) := [0, 1, 2, 3, 4, 5, 6, 7]
structure MC (K : PySem.W.Frag) (mg : Str → Option Value) : Prop where
  SHIFT : GlD K mg "SHIFT" (.int 0)
  IDENTITY : GlD K mg "IDENTITY" (dS one)
  KINDS : GlD K mg "KINDS" (.int 8)
  TURNS : GlD K mg "TURNS" (.tup [.int 1, .int 3])
  LINEAR : GlT K mg "LINEAR" (.tup (kinds.map linD))
  MOST : GlD K mg "MOST_GENERATORS" (.int 6)
  PROGRAM : GlD K mg "PROGRAM" (.str "program")
  APART : GlD K mg "APART" (.str "apart")
end G
end
section
set_option Elab.async false
set_option linter.all false
set_option maxRecDepth 100000
set_option maxHeartbeats 4000000
/-! H1a: the data that the module keeps, as a test over a part of the heap. -/
namespace G
open PySem L2
def stB (K : PySem.W.Frag) : Nat → Value → D → Bool
  | _, .int i _, .int j => decide (i = j)
  | _, .str x _, .str y => decide (x = y)
  | n + 1, .ref a, .tup ds => match K.lookup a with
    | some ⟨.type c, none, .seq its _, _⟩ => decide (c = "tuple") && (decide (its.size ≤ sizeLine) && (decide (its.toList.length = ds.length) && (its.toList.zip ds).all fun p => stB K n p.1 p.2))
    | _ => false
  | _, _, _ => false
def stG (K : PySem.W.Frag) (q : Str × D) : Bool := match PySem.W.nsIn K mainGlobals q.1 with
  | some (some u) => stB K 3 u q.2
  | _ => false
end G
end
section
set_option Elab.async false
set_option linter.all false
set_option maxRecDepth 100000
set_option maxHeartbeats 4000000
namespace G
open PySem L2
def d__law_source : He.DefD := ⟨("_law_source", none), "_law_source", "_law_source", defArgs (top 80), defBody (top 80), defScope (top 80), [], []⟩
def d__law_cell : He.DefD := ⟨("_law_cell", none), "_law_cell", "_law_cell", defArgs (top 79), defBody (top 79), defScope (top 79), [], []⟩
def d__law_divisor : He.DefD := ⟨("_law_divisor", none), "_law_divisor", "_law_divisor", defArgs (top 75), defBody (top 75), defScope (top 75), [], []⟩
def d__law_basis : He.DefD := ⟨("_law_basis", none), "_law_basis", "_law_basis", defArgs (top 77), defBody (top 77), defScope (top 77), [], []⟩
def d__law_linear : He.DefD := ⟨("_law_linear", none), "_law_linear", "_law_linear", defArgs (top 83), defBody (top 83), defScope (top 83), [], []⟩
def d__law_image : He.DefD := ⟨("_law_image", none), "_law_image", "_law_image", defArgs (top 84), defBody (top 84), defScope (top 84), [], []⟩
def d__law_product : He.DefD := ⟨("_law_product", none), "_law_product", "_law_product", defArgs (top 85), defBody (top 85), defScope (top 85), [], []⟩
def d__law_reduce : He.DefD := ⟨("_law_reduce", none), "_law_reduce", "_law_reduce", defArgs (top 76), defBody (top 76), defScope (top 76), [], []⟩
def d__law_group : He.DefD := ⟨("_law_group", none), "_law_group", "_law_group", defArgs (top 78), defBody (top 78), defScope (top 78), [], []⟩
def d__law_draw : He.DefD := ⟨("_law_draw", none), "_law_draw", "_law_draw", defArgs (top 81), defBody (top 81), defScope (top 81), [], []⟩
def d__law_square : He.DefD := ⟨("_law_square", none), "_law_square", "_law_square", defArgs (top 87), defBody (top 87), defScope (top 87), [], []⟩
def d__law_symmetry : He.DefD := ⟨("_law_symmetry", none), "_law_symmetry", "_law_symmetry", defArgs (top 88), defBody (top 88), defScope (top 88), [], []⟩
def d__law_tiling : He.DefD := ⟨("_law_tiling", none), "_law_tiling", "_law_tiling", defArgs (top 91), defBody (top 91), defScope (top 91), [], []⟩
def d__law_choose : He.DefD := ⟨("_law_choose", none), "_law_choose", "_law_choose", defArgs (top 82), defBody (top 82), defScope (top 82), [], []⟩
def d__law_generators : He.DefD := ⟨("_law_generators", none), "_law_generators", "_law_generators", defArgs (top 89), defBody (top 89), defScope (top 89), [], []⟩
def d__law_any_group : He.DefD := ⟨("_law_any_group", none), "_law_any_group", "_law_any_group", defArgs (top 92), defBody (top 92), defScope (top 92), [], []⟩
def d__law_inverse : He.DefD := ⟨("_law_inverse", none), "_law_inverse", "_law_inverse", defArgs (top 86), defBody (top 86), defScope (top 86), [], []⟩
def d__law_carried : He.DefD := ⟨("_law_carried", none), "_law_carried", "_law_carried", defArgs (top 93), defBody (top 93), defScope (top 93), [], []⟩
def d__law_named_group : He.DefD := ⟨("_law_named_group", none), "_law_named_group", "_law_named_group", defArgs (top 94), defBody (top 94), defScope (top 94), [], []⟩
def d__law_group_of_any_sort : He.DefD := ⟨("_law_group_of_any_sort", none), "_law_group_of_any_sort", "_law_group_of_any_sort", defArgs (top 95), defBody (top 95), defScope (top 95), [], []⟩
def d_is_integer : He.DefD := ⟨("is_integer", none), "is_integer", "is_integer", defArgs (top 8), defBody (top 8), defScope (top 8), [], []⟩
def d_is_between : He.DefD := ⟨("is_between", none), "is_between", "is_between", defArgs (top 9), defBody (top 9), defScope (top 9), [], []⟩
def d_is_symmetry : He.DefD := ⟨("is_symmetry", none), "is_symmetry", "is_symmetry", defArgs (top 25), defBody (top 25), defScope (top 25), [], []⟩
def d_is_generators : He.DefD := ⟨("is_generators", none), "is_generators", "is_generators", defArgs (top 39), defBody (top 39), defScope (top 39), [], []⟩
def d_need_generators : He.DefD := ⟨("need_generators", none), "need_generators", "need_generators", defArgs (top 40), defBody (top 40), defScope (top 40), [], []⟩
def d_is_square : He.DefD := ⟨("is_square", none), "is_square", "is_square", defArgs (top 24), defBody (top 24), defScope (top 24), [], []⟩
def d_need_square : He.DefD := ⟨("need_square", none), "need_square", "need_square", defArgs (top 26), defBody (top 26), defScope (top 26), [], []⟩
def d_need_all : He.DefD := ⟨("need_all", none), "need_all", "need_all", defArgs (top 70), defBody (top 70), defScope (top 70), [], []⟩
def d_added : He.DefD := ⟨("added", none), "added", "added", defArgs (top 11), defBody (top 11), defScope (top 11), [.int 1], []⟩
def d_turned : He.DefD := ⟨("turned", none), "turned", "turned", defArgs (top 28), defBody (top 28), defScope (top 28), [], []⟩
def d_offset : He.DefD := ⟨("offset", none), "offset", "offset", defArgs (top 30), defBody (top 30), defScope (top 30), [], []⟩
def d_image_of : He.DefD := ⟨("image_of", none), "image_of", "image_of", defArgs (top 31), defBody (top 31), defScope (top 31), [], []⟩
def d_kind_after : He.DefD := ⟨("kind_after", none), "kind_after", "kind_after", defArgs (top 29), defBody (top 29), defScope (top 29), [], []⟩
def d_product_of : He.DefD := ⟨("product_of", none), "product_of", "product_of", defArgs (top 33), defBody (top 33), defScope (top 33), [], []⟩
def d_samples_of : He.DefD := ⟨("samples_of", none), "samples_of", "samples_of", defArgs (top 41), defBody (top 41), defScope (top 41), [], []⟩
def d_divisor : He.DefD := ⟨("divisor", none), "divisor", "divisor", defArgs (top 10), defBody (top 10), defScope (top 10), [], []⟩
def d_basis_of : He.DefD := ⟨("basis_of", none), "basis_of", "basis_of", defArgs (top 12), defBody (top 12), defScope (top 12), [], []⟩
def d_inverse_of : He.DefD := ⟨("inverse_of", none), "inverse_of", "inverse_of", defArgs (top 34), defBody (top 34), defScope (top 34), [], []⟩
def d_shifts_of : He.DefD := ⟨("shifts_of", none), "shifts_of", "shifts_of", defArgs (top 42), defBody (top 42), defScope (top 42), [], []⟩
def d_leading : He.DefD := ⟨("leading", none), "leading", "leading", defArgs (top 13), defBody (top 13), defScope (top 13), [], []⟩
def d_coordinates : He.DefD := ⟨("coordinates", none), "coordinates", "coordinates", defArgs (top 14), defBody (top 14), defScope (top 14), [], []⟩
def d_reduced : He.DefD := ⟨("reduced", none), "reduced", "reduced", defArgs (top 15), defBody (top 15), defScope (top 15), [], []⟩
def d_reduced_by : He.DefD := ⟨("reduced_by", none), "reduced_by", "reduced_by", defArgs (top 44), defBody (top 44), defScope (top 44), [], []⟩
def d_describe_by : He.DefD := ⟨("describe_by", none), "describe_by", "describe_by", defArgs (top 43), defBody (top 43), defScope (top 43), [], []⟩
def d_difference_of : He.DefD := ⟨("difference_of", none), "difference_of", "difference_of", defArgs (top 65), defBody (top 65), defScope (top 65), [], []⟩
def d_is_step : He.DefD := ⟨("is_step", none), "is_step", "is_step", defArgs (top 16), defBody (top 16), defScope (top 16), [], []⟩
def d_carrying : He.DefD := ⟨("carrying", none), "carrying", "carrying", defArgs (top 69), defBody (top 69), defScope (top 69), [], []⟩
def d_repeated : He.DefD := ⟨("repeated", none), "repeated", "repeated", defArgs (top 35), defBody (top 35), defScope (top 35), [], []⟩
def d_power_of : He.DefD := ⟨("power_of", none), "power_of", "power_of", defArgs (top 36), defBody (top 36), defScope (top 36), [], []⟩
def d_line_value : He.DefD := ⟨("line_value", none), "line_value", "line_value", defArgs (top 57), defBody (top 57), defScope (top 57), [], []⟩
def d_Writer_write : He.DefD := ⟨("Writer", some "write"), "write", "Writer.write", defArgs (topm 60 1), defBody (topm 60 1), defScope (topm 60 1), [], []⟩
def d_Writer_written_samples : He.DefD := ⟨("Writer", some "written_samples"), "written_samples", "Writer.written_samples", defArgs (topm 60 2), defBody (topm 60 2), defScope (topm 60 2), [], []⟩
def d_Writer_step_of : He.DefD := ⟨("Writer", some "step_of"), "step_of", "Writer.step_of", defArgs (topm 60 3), defBody (topm 60 3), defScope (topm 60 3), [], []⟩
def d_Writer_divided : He.DefD := ⟨("Writer", some "divided"), "divided", "Writer.divided", defArgs (topm 60 4), defBody (topm 60 4), defScope (topm 60 4), [], []⟩
def d_Writer_write_steps : He.DefD := ⟨("Writer", some "write_steps"), "write_steps", "Writer.write_steps", defArgs (topm 60 5), defBody (topm 60 5), defScope (topm 60 5), [], []⟩
def d_Writer___init__ : He.DefD := ⟨("Writer", some "__init__"), "__init__", "Writer.__init__", defArgs (topm 60 0), defBody (topm 60 0), defScope (topm 60 0), [], []⟩
def d_Writer_write_symmetry : He.DefD := ⟨("Writer", some "write_symmetry"), "write_symmetry", "Writer.write_symmetry", defArgs (topm 60 6), defBody (topm 60 6), defScope (topm 60 6), [], []⟩
def d_program_by : He.DefD := ⟨("program_by", none), "program_by", "program_by", defArgs (top 61), defBody (top 61), defScope (top 61), [], []⟩
def d_images_of : He.DefD := ⟨("images_of", none), "images_of", "images_of", defArgs (top 66), defBody (top 66), defScope (top 66), [], []⟩
def d_connect : He.DefD := ⟨("connect", none), "connect", "connect", defArgs (top 71), defBody (top 71), defScope (top 71), [], []⟩
def d_value_of : He.DefD := ⟨("value_of", none), "value_of", "value_of", defArgs (top 58), defBody (top 58), defScope (top 58), [], []⟩
def d_is_factor : He.DefD := ⟨("is_factor", none), "is_factor", "is_factor", defArgs (top 55), defBody (top 55), defScope (top 55), [], []⟩
def d_is_program : He.DefD := ⟨("is_program", none), "is_program", "is_program", defArgs (top 56), defBody (top 56), defScope (top 56), [], []⟩
def d_run_program : He.DefD := ⟨("run_program", none), "run_program", "run_program", defArgs (top 59), defBody (top 59), defScope (top 59), [], []⟩
def d_is_apart : He.DefD := ⟨("is_apart", none), "is_apart", "is_apart", defArgs (top 72), defBody (top 72), defScope (top 72), [], []⟩
def d_is_connection : He.DefD := ⟨("is_connection", none), "is_connection", "is_connection", defArgs (top 73), defBody (top 73), defScope (top 73), [], []⟩
def d_need_symmetry : He.DefD := ⟨("need_symmetry", none), "need_symmetry", "need_symmetry", defArgs (top 27), defBody (top 27), defScope (top 27), [], []⟩
def d_holds : He.DefD := ⟨("holds", none), "holds", "holds", defArgs (top 46), defBody (top 46), defScope (top 46), [], []⟩
def d_contains : He.DefD := ⟨("contains", none), "contains", "contains", defArgs (top 47), defBody (top 47), defScope (top 47), [], []⟩
def d_image : He.DefD := ⟨("image", none), "image", "image", defArgs (top 32), defBody (top 32), defScope (top 32), [], []⟩
def d__law_program_right : He.DefD := ⟨("_law_program_right", none), "_law_program_right", "_law_program_right", defArgs (top 96), defBody (top 96), defScope (top 96), [], []⟩
def d_are_members : He.DefD := ⟨("are_members", none), "are_members", "are_members", defArgs (top 48), defBody (top 48), defScope (top 48), [], []⟩
def d_is_basis : He.DefD := ⟨("is_basis", none), "is_basis", "is_basis", defArgs (top 17), defBody (top 17), defScope (top 17), [], []⟩
def d_is_description : He.DefD := ⟨("is_description", none), "is_description", "is_description", defArgs (top 49), defBody (top 49), defScope (top 49), [], []⟩
def d_need_description : He.DefD := ⟨("need_description", none), "need_description", "need_description", defArgs (top 50), defBody (top 50), defScope (top 50), [], []⟩
def d_kinds_from : He.DefD := ⟨("kinds_from", none), "kinds_from", "kinds_from", defArgs (top 51), defBody (top 51), defScope (top 51), [], []⟩
def d_generators_by : He.DefD := ⟨("generators_by", none), "generators_by", "generators_by", defArgs (top 52), defBody (top 52), defScope (top 52), [], []⟩
def d_generators_of : He.DefD := ⟨("generators_of", none), "generators_of", "generators_of", defArgs (top 53), defBody (top 53), defScope (top 53), [], []⟩
def d_describe : He.DefD := ⟨("describe", none), "describe", "describe", defArgs (top 45), defBody (top 45), defScope (top 45), [], []⟩
def d__law_word : He.DefD := ⟨("_law_word", none), "_law_word", "_law_word", defArgs (top 90), defBody (top 90), defScope (top 90), [], []⟩
def d__law_squares_right : He.DefD := ⟨("_law_squares_right", none), "_law_squares_right", "_law_squares_right", defArgs (top 97), defBody (top 97), defScope (top 97), [], []⟩
def d_representative_by : He.DefD := ⟨("representative_by", none), "representative_by", "representative_by", defArgs (top 67), defBody (top 67), defScope (top 67), [], []⟩
def d_representative : He.DefD := ⟨("representative", none), "representative", "representative", defArgs (top 68), defBody (top 68), defScope (top 68), [], []⟩
def d_law : He.DefD := ⟨("law", none), "law", "law", defArgs (top 98), defBody (top 98), defScope (top 98), [], []⟩
def fn1 : List He.DefD := [d__law_source, d__law_cell, d__law_divisor, d__law_basis, d__law_linear, d__law_image, d__law_product, d__law_reduce, d__law_group, d__law_draw, d__law_square, d__law_symmetry, d__law_tiling, d__law_choose, d__law_generators, d__law_any_group, d__law_inverse, d__law_carried, d__law_named_group, d__law_group_of_any_sort, d_is_integer, d_is_between, d_is_symmetry, d_is_generators, d_need_generators, d_is_square, d_need_square, d_need_all, d_added, d_turned]
def fn2 : List He.DefD := [d_offset, d_image_of, d_kind_after, d_product_of, d_samples_of, d_divisor, d_basis_of, d_inverse_of, d_shifts_of, d_leading, d_coordinates, d_reduced, d_reduced_by, d_describe_by, d_difference_of, d_is_step, d_carrying, d_repeated, d_power_of, d_line_value, d_Writer_write, d_Writer_written_samples, d_Writer_step_of, d_Writer_divided, d_Writer_write_steps, d_Writer___init__, d_Writer_write_symmetry, d_program_by, d_images_of, d_connect]
def fn3 : List He.DefD := [d_value_of, d_is_factor, d_is_program, d_run_program, d_is_apart, d_is_connection, d_need_symmetry, d_holds, d_contains, d_image, d__law_program_right, d_are_members, d_is_basis, d_is_description, d_need_description, d_kinds_from, d_generators_by, d_generators_of, d_describe, d__law_word, d__law_squares_right, d_representative_by, d_representative, d_law]
def fn : List He.DefD := fn1 ++ (fn2 ++ fn3)
def fa0 : List He.Fa := [.glo "_law_source", .glo "_law_cell", .glo "_law_divisor", .glo "_law_basis", .glo "_law_linear", .glo "_law_image", .glo "_law_product", .glo "_law_reduce", .glo "_law_group", .glo "_law_draw", .glo "_law_square", .glo "_law_symmetry", .glo "_law_tiling", .glo "_law_choose", .glo "_law_generators", .glo "_law_any_group", .glo "_law_inverse", .glo "_law_carried", .glo "_law_named_group", .glo "_law_group_of_any_sort", .glo "is_integer", .glo "is_between", .glo "is_symmetry", .glo "is_generators", .glo "need_generators", .glo "is_square", .glo "need_square", .glo "need_all", .glo "added", .glo "turned"]
def fa1 : List He.Fa := [.glo "offset", .glo "image_of", .glo "kind_after", .glo "product_of", .glo "samples_of", .glo "divisor", .glo "basis_of", .glo "inverse_of", .glo "shifts_of", .glo "leading", .glo "coordinates", .glo "reduced", .glo "reduced_by", .glo "describe_by", .glo "difference_of", .glo "is_step", .glo "carrying", .glo "repeated", .glo "power_of", .glo "line_value", .glo "program_by", .glo "images_of", .glo "connect", .glo "value_of", .glo "is_factor", .glo "is_program", .glo "run_program", .glo "is_apart", .glo "is_connection", .glo "need_symmetry"]
def fa2 : List He.Fa := [.glo "holds", .glo "contains", .glo "image", .glo "_law_program_right", .glo "are_members", .glo "is_basis", .glo "is_description", .glo "need_description", .glo "kinds_from", .glo "generators_by", .glo "generators_of", .glo "describe", .glo "_law_word", .glo "_law_squares_right", .glo "representative_by", .glo "representative", .glo "law", .glo "Writer", .free "abs", .free "len", .free "all", .free "tuple", .free "list", .free "max", .free "min", .free "int", .free "str", .free "bool", .free "isinstance", .free "sorted"]
def fa3 : List He.Fa := [.free "set", .free "range", .free "enumerate", .cls "Writer", .mkr "Writer", .noat "Writer" "many", .noat "Writer" "known", .noat "Writer" "lines", .noat "Writer" "samples", .noat "Writer" "steps", .meth "Writer" "write", .meth "Writer" "written_samples", .meth "Writer" "step_of", .meth "Writer" "divided", .meth "Writer" "write_steps", .meth "Writer" "write_symmetry"]
def fa : List He.Fa := fa0 ++ (fa1 ++ (fa2 ++ (fa3)))
def sd : List (Str × D) := [("SHIFT", .int 0), ("IDENTITY", dS one), ("KINDS", .int 8), ("TURNS", .tup [.int 1, .int 3]), ("LINEAR", .tup (kinds.map linD)), ("MOST_GENERATORS", .int 6), ("PROGRAM", .str "program"), ("APART", .str "apart")]
end G
end
section
set_option Elab.async false
set_option linter.all false
set_option maxRecDepth 100000
set_option maxHeartbeats 4000000
namespace G
open PySem L2
/-- the addresses that a state's module reaches in n steps (twice named, twice told) -/
def grS (g : Addr → Option Obj) (as : List Addr) : List Addr := as.flatMap fun a => match g a with
  | some o => He.refsD o
  | none => []
def asS (g : Addr → Option Obj) : Nat → List Addr → List Addr
  | 0, f => f
  | n + 1, f => f ++ asS g n (grS g f)
/-- the head's Hook: defs, facts by names, and the static data -/
abbrev AlS : Type := He.AlD × Bool
def obsS (K : PySem.W.Frag) : AlS := (He.obsD fa fn K, sd.all (stG K))
def obsSG (g : Addr → Option Obj) : AlS := obsS (He.frG g (asS g 4 [mainGlobals]))
def hkS : PySem.W.Hook where
  α := AlS
  obs := fun s => obsSG s.heap.get?
  val := fun _ => (He.valD fn, true)
  says := fun _ h => ∃ K : PySem.W.Frag, K.In h ∧ He.SaysD fa fn K ∧ sd.all (stG K) = true
  of := fun _ _ e => ⟨_, He.frG_in, congrArg (fun z : AlS => z.1) e, congrArg (fun z : AlS => z.2) e⟩
  keeps := fun _ _ _ ⟨K, hK, c⟩ k => ⟨K, PySem.W.Frag.In.keeps hK k, c⟩
def obS (s : PySem.W.SharedT) : AlS := obsSG (HandSHeadRun.getT s)
theorem obS_eq (s : PySem.W.SharedT) : obS s = hkS.obs s.abs := by
  have e : HandSHeadRun.getT s = s.abs.heap.get? := funext (HandSHeadRun.getT_eq s)
  unfold obS
  rw [e]
  rfl
abbrev rowS : PySem.W.OpenRow := PySem.W.OpenLaw.row PySem.Challenge.rw_gridsym_k47_whole_connections
def nm0 : List Str := ["GridsymError", "SquareError", "SymmetryError", "GeneratorsError", "ProgramError", "DescriptionError", "is_integer", "is_between", "divisor", "added", "basis_of", "leading", "coordinates", "reduced", "is_step", "is_basis", "SHIFT", "IDENTITY", "KINDS", "TURNS", "LINEAR", "is_square", "is_symmetry", "need_square", "need_symmetry", "turned", "kind_after", "offset", "image_of", "image"]
def nm1 : List Str := ["product_of", "inverse_of", "repeated", "power_of", "MOST_GENERATORS", "is_generators", "need_generators", "samples_of", "shifts_of", "describe_by", "reduced_by", "describe", "holds", "contains", "are_members", "is_description", "need_description", "kinds_from", "generators_by", "generators_of", "is_factor", "is_program", "line_value", "value_of", "run_program", "Writer", "program_by", "PROGRAM", "APART", "difference_of"]
def nm2 : List Str := ["images_of", "representative_by", "representative", "carrying", "need_all", "connect", "is_apart", "is_connection", "_law_divisor", "_law_reduce", "_law_basis", "_law_group", "_law_cell", "_law_source", "_law_draw", "_law_choose", "_law_linear", "_law_image", "_law_product", "_law_inverse", "_law_square", "_law_symmetry", "_law_generators", "_law_word", "_law_tiling", "_law_any_group", "_law_carried", "_law_named_group", "_law_group_of_any_sort", "_law_program_right"]
def nm3 : List Str := ["_law_squares_right"]
def nms : List Str := nm0 ++ (nm1 ++ (nm2 ++ (nm3)))
abbrev viewS : Program := PySem.W.view rowS.prog [98]
end G
end
section
set_option Elab.async false
set_option linter.all false
set_option maxRecDepth 100000
set_option maxHeartbeats 4000000
namespace G
open PySem L2
noncomputable abbrev endS (w : World) (os : OsState) : Option PySem.W.SharedT := HandSHeadRun.endF (HandSHeadRun.stepQ (HandSHeadRun.denQ HandSHeadRun.tabQ) rowS.prog w) 20000 rowS.prog w os
theorem runA (w : World) : HandSHeadRun.RunEq rowS viewS PySem.W.Hook.none (fun _ => ()) 20000 nms w := by
  intro os
  kernel_rfl
theorem runB (w : World) (os : OsState) : (endS w os).map (fun s => obS s) = some (He.valD fn, true) := by
  kernel_rfl
theorem two_runs {A B C D : Type} {f : A → B} {g : A → C} {h : A → D} {b : B} {c : C} {d : D} {x : Option A} (e1 : x.map (fun s => (f s, g s, ())) = some (b, c, ())) (e2 : x.map h = some d) : x.map (fun s => (f s, g s, h s)) = some (b, c, d) := by
  cases x with
  | none => cases e2
  | some s =>
    simp only [Option.map_some, Option.some.injEq, Prod.mk.injEq] at e1 e2 ⊢
    exact ⟨e1.1, e1.2.1, e2⟩
theorem runS (w : World) : HandSHeadRun.RunEq rowS viewS hkS obS 20000 nms w := fun os => two_runs (runA w os) (runB w os)
end G
end
section
set_option Elab.async false
set_option linter.all false
set_option maxRecDepth 100000
set_option maxHeartbeats 4000000
/-! G10: small helpers of the walks. -/
namespace G
open PySem L2
theorem getMap {α β : Type} {f : α → β} {xs : List α} {i : Nat} {d : β} (h : (xs.map f)[i]? = some d) : ∃ x, xs[i]? = some x ∧ d = f x := by
  rw [List.getElem?_map] at h
  cases e : xs[i]? with
  | none => rw [e] at h; cases h
  | some x => rw [e] at h; cases h; exact ⟨x, rfl, rfl⟩
theorem allrep (n : Nat) : (List.replicate n true).all id = true := by induction n with | zero => rfl | succ n ih => rw [List.replicate_succ, List.all_cons, ih]; rfl
theorem snocTrue {p : Addr} (i : Nat) (st : Sto) : (⟨p, true, .lst ((List.replicate i true).map D.bl ++ [.bl true])⟩ :: st : Sto) = ⟨p, true, .lst ((List.replicate (i + 1) true).map D.bl)⟩ :: st := by
  rw [List.replicate_succ', List.map_append]; rfl
theorem getLt {α : Type} {xs : List α} {i : Nat} {d : α} (h : xs[i]? = some d) : i < xs.length := (List.getElem?_eq_some_iff.mp h).1
theorem takeS {α : Type} {xs : List α} {i : Nat} {d : α} (h : xs[i]? = some d) : xs.take (i + 1) = xs.take i ++ [d] := by
  rw [List.take_succ, h]; rfl
/-- the items so far, one more -/
theorem snocMap {α β : Type} {f : α → β} {xs : List α} {i : Nat} {x : α} (h : xs[i]? = some x) : (xs.take i).map f ++ [f x] = (xs.take (i + 1)).map f := by
  rw [takeS h, List.map_append]; rfl
theorem take0 {α β : Type} {f : α → β} {xs : List α} : (xs.take 0).map f = [] := by simp
theorem takeAll {α β : Type} {f : α → β} {xs : List α} : (xs.take xs.length).map f = xs.map f := by rw [List.take_length]
theorem lenRep {α : Type} {xs : List α} {i : Nat} {x : α} {b : Bool} (h : xs[i]? = some x) (hl : xs.length ≤ sizeLine) : ((List.replicate i b).map D.bl).length < sizeLine := by
  rw [List.length_map, List.length_replicate]
  have := getLt h
  omega
theorem lenTake {α β : Type} {f : α → β} {xs : List α} {i : Nat} {x : α} (h : xs[i]? = some x) (hl : xs.length ≤ sizeLine) : ((xs.take i).map f).length < sizeLine := by
  rw [List.length_map, List.length_take]
  have := getLt h
  omega
theorem sizeLine_big : (16777216 : Nat) ≤ sizeLine := by decide
section
variable {X : Cx} {F : Fr} {en : Env} {st : Sto}
theorem TwoV.of {c : Prop} [Decidable c] {Q : D → Sto → Prop} {st : Sto} (h : TwoV c Q st) : Q (.bl (decide c)) st := h _ decide_eq_true_iff
theorem ee_eqIV {a b : Expr} {pos} {Q : D → Sto → Prop} (q : EE X F en a st fun d1 st1 => EE X F en b st1 fun d2 st2 => ∃ i j, d1 = .int i ∧ d2 = .int j ∧ TwoV (i = j) Q st2) : EE X F en (.Compare a [.Eq] [b] pos) st Q :=
  ee_eqI (ee_mono q fun _ _ q1 => ee_mono q1 fun _ _ ⟨i, j, e1, e2, q2⟩ => ⟨i, j, e1, e2, q2.of⟩)
theorem ee_gtV {a b : Expr} {pos} {Q : D → Sto → Prop} (q : EE X F en a st fun d1 st1 => EE X F en b st1 fun d2 st2 => ∃ i j, d1 = .int i ∧ d2 = .int j ∧ TwoV (j < i) Q st2) : EE X F en (.Compare a [.Gt] [b] pos) st Q :=
  ee_gt (ee_mono q fun _ _ q1 => ee_mono q1 fun _ _ ⟨i, j, e1, e2, q2⟩ => ⟨i, j, e1, e2, q2.of⟩)
theorem ee_leV {a b : Expr} {pos} {Q : D → Sto → Prop} (q : EE X F en a st fun d1 st1 => EE X F en b st1 fun d2 st2 => ∃ i j, d1 = .int i ∧ d2 = .int j ∧ TwoV (i ≤ j) Q st2) : EE X F en (.Compare a [.LtE] [b] pos) st Q :=
  ee_le (ee_mono q fun _ _ q1 => ee_mono q1 fun _ _ ⟨i, j, e1, e2, q2⟩ => ⟨i, j, e1, e2, q2.of⟩)
theorem ee_isBV {a b : Expr} {pos} {Q : D → Sto → Prop} (q : EE X F en a st fun d1 st1 => EE X F en b st1 fun d2 st2 => ∃ i j : Bool, d1 = .bl i ∧ d2 = .bl j ∧ TwoV (i = j) Q st2) : EE X F en (.Compare a [.Is] [b] pos) st Q :=
  ee_isB (ee_mono q fun _ _ q1 => ee_mono q1 fun _ _ ⟨i, j, e1, e2, q2⟩ => ⟨i, j, e1, e2, q2.of⟩)
end
end G
end
section
set_option Elab.async false
set_option linter.all false
set_option maxRecDepth 100000
set_option maxHeartbeats 4000000
namespace G
open PySem L2
variable {P : Program} {w : World} {K : PySem.W.Frag} {mg : Str → Option Value} {base : Heap}
theorem atLin (k : Fin 8) : atI (kinds.map linD) ((k.val : Nat) : Int) = some (linD k) := kall (p := fun k => atI (kinds.map linD) ((k.val : Nat) : Int) = some (linD k)) ⟨rfl, rfl, rfl, rfl, rfl, rfl, rfl, rfl⟩ k
theorem kinds_get (k : Fin 8) : kinds[k.val]? = some k := kall (p := fun k => kinds[k.val]? = some k) ⟨rfl, rfl, rfl, rfl, rfl, rfl, rfl, rfl⟩ k
theorem linD_inj {a b : Fin 8} (h : linD a = linD b) : a = b := by
  unfold linD at h
  simp only [D.tup.injEq, List.cons.injEq, D.int.injEq, and_true] at h
  exact LIN_inj a b (Prod.ext h.1 (Prod.ext h.2.1 (Prod.ext h.2.2.1 h.2.2.2)))
theorem lin_cols (a b : Fin 8) : (lin b (lin a (1, 0))).1 = (LIN (kmul a b)).1 ∧ (lin b (lin a (1, 0))).2 = (LIN (kmul a b)).2.2.1 ∧ (lin b (lin a (0, 1))).1 = (LIN (kmul a b)).2.1 ∧ (lin b (lin a (0, 1))).2 = (LIN (kmul a b)).2.2.2 := by
  simp only [← lin_kmul]
  simp [lin]
theorem lin_tup (a b : Fin 8) : D.tup [.int (lin b (lin a (1, 0))).1, .int (lin b (lin a (0, 1))).1, .int (lin b (lin a (1, 0))).2, .int (lin b (lin a (0, 1))).2] = linD (kmul a b) := by
  obtain ⟨h1, h2, h3, h4⟩ := lin_cols a b
  rw [h1, h2, h3, h4]; rfl
theorem lin_at (a b : Fin 8) : (kinds.map linD)[(kmul a b).val]? = some (D.tup [.int (lin b (lin a (1, 0))).1, .int (lin b (lin a (0, 1))).1, .int (lin b (lin a (1, 0))).2, .int (lin b (lin a (0, 1))).2]) := by
  rw [lin_tup, List.getElem?_map, kinds_get]; rfl
theorem lin_first (a b : Fin 8) : ∀ m, m < (kmul a b).val → (kinds.map linD)[m]? ≠ some (D.tup [.int (lin b (lin a (1, 0))).1, .int (lin b (lin a (0, 1))).1, .int (lin b (lin a (1, 0))).2, .int (lin b (lin a (0, 1))).2]) := by
  intro m hm h
  rw [lin_tup] at h
  have h8 := (kmul a b).isLt
  have e := kinds_get ⟨m, by omega⟩
  rw [List.getElem?_map, show kinds[m]? = some ⟨m, by omega⟩ from e] at h
  have := linD_inj (Option.some.inj h)
  have : m = (kmul a b).val := congrArg Fin.val this
  omega
def W_is_integer : Spec := Pu fun ds p => ∃ i : Int, ds = [.int i] ∧ p = fun d => d = .bl true
theorem ok_is_integer {f : Addr} {fd : FuncData} (Fu : FunT K "is_integer" 8 [] f fd) (mb : MB mg) (mc : MC K mg) : FnOk P w K mg base CX0 1 f fd ["thing"] (spW K 1 W_is_integer) := by
  refine fnok_mk (N := ["thing"]) (Gs := ["isinstance", "int", "bool"]) (Vi := [0]) Fu ⟨rfl, rfl, rfl, by decide +kernel, rfl, by decide +kernel, by decide +kernel⟩ (by decide +kernel) rfl ?_
  rintro X F want ds R c hsc ⟨rfl, p, ⟨i, rfl, rfl⟩, rfl⟩ hl hF
  show SL X F _ [some _] _ _ _
  refine sl_cons (ss_ret ?_)
  refine ee_and ?_
  refine ee_isi c (i := 0) rfl mb.isinstance (j := 1) rfl mb.int rfl ?_
  refine ee_var c (i := 0) rfl rfl rfl ?_
  refine ⟨true, rfl, ?_⟩
  refine ⟨_, rfl, ?_⟩
  refine isT ?_
  refine ee_one ?_
  refine ee_not ?_
  refine ee_isi c (i := 0) rfl mb.isinstance (j := 2) rfl mb.bool rfl ?_
  refine ee_var c (i := 0) rfl rfl rfl ?_
  refine ⟨false, rfl, ?_⟩
  refine ⟨_, rfl, ?_⟩
  exact .pure ⟨rfl, rfl⟩
def W_is_between : Spec := Pu fun ds p => ∃ i a b : Int, ds = [.int i, .int a, .int b] ∧ a ≤ i ∧ i ≤ b ∧ p = fun d => d = .bl true
theorem ok_is_between {f : Addr} {fd : FuncData} (Fu : FunT K "is_between" 9 [] f fd) (mb : MB mg) (mc : MC K mg) (f_is_integer : Fn P w K mg base "is_integer" 1 1 [] W_is_integer) : FnOk P w K mg base CX0 2 f fd ["thing", "least", "most"] (spW K 3 W_is_between) := by
  refine fnok_mk (N := ["thing", "least", "most"]) (Gs := ["is_integer"]) (Vi := [0, 1, 2]) Fu ⟨rfl, rfl, rfl, by decide +kernel, rfl, by decide +kernel, by decide +kernel⟩ (by decide +kernel) rfl ?_
  rintro X F want ds R c hsc ⟨rfl, p, ⟨i, a, b, rfl, h1, h2, rfl⟩, rfl⟩ hl hF
  show SL X F _ [some _, some _, some _] _ _ _
  refine sl_cons (ss_ret ?_)
  refine ee_and ?_
  refine ee_pcall c (i := 0) f_is_integer (by decide) rfl ?_
  refine ea_cons ?_
  refine ee_var c (i := 0) rfl rfl rfl ?_
  refine ea_nil ?_
  refine ⟨_, ⟨_, rfl, rfl⟩, rfl, ?_⟩
  rintro _ rfl
  refine ⟨_, rfl, ?_⟩
  refine isT ?_
  refine ee_one ?_
  refine ee_chainLe ?_
  refine ee_var c (i := 1) rfl rfl rfl ?_
  refine ee_var c (i := 0) rfl rfl rfl ?_
  refine ⟨_, _, rfl, rfl, fun _ => ?_, fun z => absurd h1 z⟩
  refine ee_var c (i := 2) rfl rfl rfl ?_
  refine ⟨_, rfl, ?_⟩
  rw [decide_eq_true h2]
  exact .pure ⟨rfl, rfl⟩
def W_added : Spec := Pu fun ds p => ∃ (v w : V2) (m : Int), ds = [dV v, dV w, .int m] ∧ IntMulOk m w.1 ∧ IntMulOk m w.2 ∧ p = fun d => d = dV (vadd v (smul m w))
theorem ok_added {f : Addr} {fd : FuncData} (Fu : FunT K "added" 11 [.int 1] f fd) (mb : MB mg) (mc : MC K mg) : FnOk P w K mg base CX0 1 f fd ["vector", "step", "many"] (spW K 3 W_added) := by
  refine fnok_mk (N := ["vector", "step", "many"]) (Gs := []) (Vi := [0, 1, 2]) Fu ⟨rfl, rfl, rfl, by decide +kernel, rfl, by decide +kernel, by decide +kernel⟩ (by decide +kernel) rfl ?_
  rintro X F want ds R c hsc ⟨rfl, p, ⟨v, w, m, rfl, h1, h2, rfl⟩, rfl⟩ hl hF
  show SL X F _ [some _, some _, some _] _ _ _
  refine sl_cons (ss_ret ?_)
  refine ee_tup ?_
  refine ea_cons ?_
  refine ee_add ?_
  refine ee_ixT ?_
  refine ee_var c (i := 0) rfl rfl rfl ?_
  refine ee_int ?_
  refine ⟨_, _, _, rfl, rfl, rfl, ?_⟩
  refine ee_mulO ?_
  refine ee_var c (i := 2) rfl rfl rfl ?_
  refine ee_ixT ?_
  refine ee_var c (i := 1) rfl rfl rfl ?_
  refine ee_int ?_
  refine ⟨_, _, _, rfl, rfl, rfl, ?_⟩
  refine ⟨_, _, rfl, rfl, h1, ?_⟩
  refine ⟨_, _, rfl, rfl, ?_⟩
  refine ea_cons ?_
  refine ee_add ?_
  refine ee_ixT ?_
  refine ee_var c (i := 0) rfl rfl rfl ?_
  refine ee_int ?_
  refine ⟨_, _, _, rfl, rfl, rfl, ?_⟩
  refine ee_mulO ?_
  refine ee_var c (i := 2) rfl rfl rfl ?_
  refine ee_ixT ?_
  refine ee_var c (i := 1) rfl rfl rfl ?_
  refine ee_int ?_
  refine ⟨_, _, _, rfl, rfl, rfl, ?_⟩
  refine ⟨_, _, rfl, rfl, h2, ?_⟩
  refine ⟨_, _, rfl, rfl, ?_⟩
  refine ea_nil ?_
  refine ⟨Nat.le_of_ble_eq_true rfl, ?_⟩
  exact .pure ⟨rfl, rfl⟩
def W_leading : Spec := Pu fun ds p => ∃ v : V2, ds = [dV v] ∧ p = fun d => d = .int (if v.1 = 0 then 1 else 0)
theorem ok_leading {f : Addr} {fd : FuncData} (Fu : FunT K "leading" 13 [] f fd) (mb : MB mg) (mc : MC K mg) : FnOk P w K mg base CX0 1 f fd ["step"] (spW K 1 W_leading) := by
  refine fnok_mk (N := ["step"]) (Gs := []) (Vi := [0]) Fu ⟨rfl, rfl, rfl, by decide +kernel, rfl, by decide +kernel, by decide +kernel⟩ (by decide +kernel) rfl ?_
  rintro X F want ds R c hsc ⟨rfl, p, ⟨v, rfl, rfl⟩, rfl⟩ hl hF
  show SL X F _ [some _] _ _ _
  refine sl_cons (ss_ret ?_)
  refine ee_ifx ?_
  refine et_neI ?_
  refine ee_ixT ?_
  refine ee_var c (i := 0) rfl rfl rfl ?_
  refine ee_int ?_
  refine ⟨_, _, _, rfl, rfl, rfl, ?_⟩
  refine ee_int ?_
  refine ⟨_, _, rfl, rfl, ?_⟩
  refine ⟨fun h1 => ?_, fun h1 => ?_⟩
  · refine isT ?_
    refine ee_int ?_
    exact .pure ⟨by rw [if_neg h1], rfl⟩
  · refine isF ?_
    refine ee_int ?_
    exact .pure ⟨by rw [if_pos (by omega)], rfl⟩
def W_is_square : Spec := Pu fun ds p => ∃ v : V2, ds = [dV v] ∧ p = fun d => d = .bl true
theorem ok_is_square {f : Addr} {fd : FuncData} (Fu : FunT K "is_square" 24 [] f fd) (mb : MB mg) (mc : MC K mg) (f_is_integer : Fn P w K mg base "is_integer" 1 1 [] W_is_integer) : FnOk P w K mg base CX0 2 f fd ["thing"] (spW K 1 W_is_square) := by
  refine fnok_mk (N := ["thing", "one"]) (Gs := ["isinstance", "tuple", "len", "all"]) (Vi := [0]) Fu ⟨rfl, rfl, rfl, by decide +kernel, rfl, by decide +kernel, by decide +kernel⟩ (by decide +kernel) rfl ?_
  rintro X F want ds R c hsc ⟨rfl, p, ⟨v, rfl, rfl⟩, rfl⟩ hl hF
  show SL X F _ [some _, none] _ _ _
  refine sl_cons (ss_ret ?_)
  refine ee_and ?_
  refine ee_isi c (i := 0) rfl mb.isinstance (j := 1) rfl mb.tuple rfl ?_
  refine ee_var c (i := 0) rfl rfl rfl ?_
  refine ⟨true, rfl, ?_⟩
  refine ⟨_, rfl, ?_⟩
  refine isT ?_
  refine ee_and ?_
  refine ee_eqIV ?_
  refine ee_lenT c (i := 2) rfl mb.len ?_
  refine ee_var c (i := 0) rfl rfl rfl ?_
  refine ⟨_, rfl, ?_⟩
  refine ee_int ?_
  refine ⟨_, _, rfl, rfl, ?_⟩
  intro b1 hb1
  refine ⟨_, rfl, ?_⟩
  cases b1
  · exact absurd (hb1.mpr rfl) (by decide)
  · refine isT ?_
    refine ee_one ?_
    refine ee_all c (i := 3) rfl mb.all ?_
    refine ee_lc c [("one", 1)] (G' := ["is_integer"]) (V' := [1]) (by rw [hsc]; decide +kernel) (by rw [hsc]; decide +kernel) ?_
    refine ei_tup ?_
    refine ee_var c (i := 0) rfl rfl rfl ?_
    refine ⟨_, rfl, ?_⟩
    intro p2
    refine ⟨fun i st => st = ⟨p2, true, .lst ((List.replicate i true).map D.bl)⟩ :: [], rfl, fun _ _ _ _ => trivial, ?_, ?_⟩
    · rintro i d st2 hd rfl Xp2 hX
      obtain ⟨n, hn, rfl⟩ := getMap (xs := [v.1, v.2]) (f := D.int) hd
      refine eg_name hX.2 (i := 1) rfl rfl (by decide) (.there .here) ?_
      intro Xp2 hX
      refine ee_pcall hX.2 (i := 0) f_is_integer (by decide) rfl ?_
      refine ea_cons ?_
      refine ee_var hX.2 (i := 1) rfl rfl rfl ?_
      refine ea_nil ?_
      refine ⟨_, ⟨_, rfl, rfl⟩, rfl, ?_⟩
      rintro _ rfl
      refine ⟨_, _, .here, lenRep hd (Nat.le_of_ble_eq_true rfl), ?_⟩
      exact snocTrue _ _
    · rintro st2 rfl
      refine ⟨_, _, rfl, .here, ?_⟩
      rw [allrep]
      exact .pure ⟨rfl, rfl⟩
def W_is_symmetry : Spec := Pu fun ds p => ∃ s : Sy, ds = [dS s] ∧ p = fun d => d = .bl true
theorem ok_is_symmetry {f : Addr} {fd : FuncData} (Fu : FunT K "is_symmetry" 25 [] f fd) (mb : MB mg) (mc : MC K mg) (f_is_between : Fn P w K mg base "is_between" 2 3 [] W_is_between) (f_is_integer : Fn P w K mg base "is_integer" 1 1 [] W_is_integer) : FnOk P w K mg base CX0 3 f fd ["thing"] (spW K 1 W_is_symmetry) := by
  refine fnok_mk (N := ["thing", "one"]) (Gs := ["isinstance", "tuple", "len", "all", "is_between", "KINDS"]) (Vi := [0]) Fu ⟨rfl, rfl, rfl, by decide +kernel, rfl, by decide +kernel, by decide +kernel⟩ (by decide +kernel) rfl ?_
  rintro X F want ds R c hsc ⟨rfl, p, ⟨s, rfl, rfl⟩, rfl⟩ hl hF
  show SL X F _ [some _, none] _ _ _
  refine sl_cons (ss_if ?_)
  refine ew_pt ?_
  refine ew_or ?_
  refine et_not ?_
  refine et_val ?_
  refine ee_isi c (i := 0) rfl mb.isinstance (j := 1) rfl mb.tuple rfl ?_
  refine ee_var c (i := 0) rfl rfl rfl ?_
  refine ⟨true, rfl, ?_⟩
  refine ⟨_, rfl, ?_⟩
  refine isF ?_
  refine ew_or ?_
  refine et_neI ?_
  refine ee_lenT c (i := 2) rfl mb.len ?_
  refine ee_var c (i := 0) rfl rfl rfl ?_
  refine ⟨_, rfl, ?_⟩
  refine ee_int ?_
  refine ⟨_, _, rfl, rfl, ?_⟩
  refine ⟨fun h1 => ?_, fun h1 => ?_⟩
  · exact absurd rfl h1
  · refine isF ?_
    refine ew_or1 ?_
    refine et_not ?_
    refine et_val ?_
    refine ee_all c (i := 3) rfl mb.all ?_
    refine ee_lc c [("one", 1)] (G' := ["is_integer"]) (V' := [1]) (by rw [hsc]; decide +kernel) (by rw [hsc]; decide +kernel) ?_
    refine ei_tup ?_
    refine ee_var c (i := 0) rfl rfl rfl ?_
    refine ⟨_, rfl, ?_⟩
    intro p2
    refine ⟨fun i st => st = ⟨p2, true, .lst ((List.replicate i true).map D.bl)⟩ :: [], rfl, fun _ _ _ _ => trivial, ?_, ?_⟩
    · rintro i d st2 hd rfl Xp2 hX
      obtain ⟨n, hn, rfl⟩ := getMap (xs := [(s.1.val : Int), s.2.1, s.2.2]) (f := D.int) hd
      refine eg_name hX.2 (i := 1) rfl rfl (by decide) (.there .here) ?_
      intro Xp2 hX
      refine ee_pcall hX.2 (i := 0) f_is_integer (by decide) rfl ?_
      refine ea_cons ?_
      refine ee_var hX.2 (i := 1) rfl rfl rfl ?_
      refine ea_nil ?_
      refine ⟨_, ⟨_, rfl, rfl⟩, rfl, ?_⟩
      rintro _ rfl
      refine ⟨_, _, .here, lenRep hd (Nat.le_of_ble_eq_true rfl), ?_⟩
      exact snocTrue _ _
    · rintro st2 rfl
      refine ⟨_, _, rfl, .here, ?_⟩
      rw [allrep]
      refine ⟨_, rfl, ?_⟩
      refine isF ?_
      refine sl_nil ?_
      refine sl_cons (ss_ret ?_)
      refine ee_pcall c (i := 4) f_is_between (by decide) rfl ?_
      refine ea_cons ?_
      refine ee_ixT ?_
      refine ee_var c (i := 0) rfl rfl rfl ?_
      refine ee_int ?_
      refine ⟨_, _, _, rfl, rfl, rfl, ?_⟩
      refine ea_cons ?_
      refine ee_int ?_
      refine ea_cons ?_
      refine ee_sub ?_
      refine ee_glob c (j := 5) mc.KINDS rfl ?_
      refine ee_int ?_
      refine ⟨_, _, rfl, rfl, ?_⟩
      refine ea_nil ?_
      refine ⟨_, ⟨_, _, _, rfl, by omega, by have := s.1.isLt; omega, rfl⟩, rfl, ?_⟩
      rintro _ rfl
      exact .pure ⟨rfl, rfl⟩
def W_need_square : Spec := Pu fun ds p => ∃ v : V2, ds = [dV v] ∧ p = fun d => d = .non
theorem ok_need_square {f : Addr} {fd : FuncData} (Fu : FunT K "need_square" 26 [] f fd) (mb : MB mg) (mc : MC K mg) (f_is_square : Fn P w K mg base "is_square" 2 1 [] W_is_square) : FnOk P w K mg base CX0 3 f fd ["thing"] (spW K 1 W_need_square) := by
  refine fnok_mk (N := ["thing"]) (Gs := ["is_square", "SquareError"]) (Vi := [0]) Fu ⟨rfl, rfl, rfl, by decide +kernel, rfl, by decide +kernel, by decide +kernel⟩ (by decide +kernel) rfl ?_
  rintro X F want ds R c hsc ⟨rfl, p, ⟨v, rfl, rfl⟩, rfl⟩ hl hF
  show SL X F _ [some _] _ _ _
  refine sl_cons (ss_if ?_)
  refine et_not ?_
  refine et_val ?_
  refine ee_pcall c (i := 0) f_is_square (by decide) rfl ?_
  refine ea_cons ?_
  refine ee_var c (i := 0) rfl rfl rfl ?_
  refine ea_nil ?_
  refine ⟨_, ⟨_, rfl, rfl⟩, rfl, ?_⟩
  rintro _ rfl
  refine ⟨_, rfl, ?_⟩
  refine isF ?_
  refine sl_nil ?_
  refine sl_nil ?_
  exact .pure ⟨rfl, rfl⟩
def W_need_symmetry : Spec := Pu fun ds p => ∃ v : Sy, ds = [dS v] ∧ p = fun d => d = .non
theorem ok_need_symmetry {f : Addr} {fd : FuncData} (Fu : FunT K "need_symmetry" 27 [] f fd) (mb : MB mg) (mc : MC K mg) (f_is_symmetry : Fn P w K mg base "is_symmetry" 3 1 [] W_is_symmetry) : FnOk P w K mg base CX0 4 f fd ["thing"] (spW K 1 W_need_symmetry) := by
  refine fnok_mk (N := ["thing"]) (Gs := ["is_symmetry", "SymmetryError"]) (Vi := [0]) Fu ⟨rfl, rfl, rfl, by decide +kernel, rfl, by decide +kernel, by decide +kernel⟩ (by decide +kernel) rfl ?_
  rintro X F want ds R c hsc ⟨rfl, p, ⟨v, rfl, rfl⟩, rfl⟩ hl hF
  show SL X F _ [some _] _ _ _
  refine sl_cons (ss_if ?_)
  refine et_not ?_
  refine et_val ?_
  refine ee_pcall c (i := 0) f_is_symmetry (by decide) rfl ?_
  refine ea_cons ?_
  refine ee_var c (i := 0) rfl rfl rfl ?_
  refine ea_nil ?_
  refine ⟨_, ⟨_, rfl, rfl⟩, rfl, ?_⟩
  rintro _ rfl
  refine ⟨_, rfl, ?_⟩
  refine isF ?_
  refine sl_nil ?_
  refine sl_nil ?_
  exact .pure ⟨rfl, rfl⟩
def W_turned : Spec := Pu fun ds p => ∃ (k : Fin 8) (v : V2), ds = [dK k, dV v] ∧ p = fun d => d = dV (lin k v)
theorem ok_turned {f : Addr} {fd : FuncData} (Fu : FunT K "turned" 28 [] f fd) (mb : MB mg) (mc : MC K mg) : FnOk P w K mg base CX0 1 f fd ["kind", "vector"] (spW K 2 W_turned) := by
  refine fnok_mk (N := ["kind", "vector", "a", "b", "c", "d"]) (Gs := ["LINEAR"]) (Vi := [0, 1, 2, 3, 4, 5]) Fu ⟨rfl, rfl, rfl, by decide +kernel, rfl, by decide +kernel, by decide +kernel⟩ (by decide +kernel) rfl ?_
  rintro X F want ds R c hsc ⟨rfl, p, ⟨k, v, rfl, rfl⟩, rfl⟩ hl hF
  show SL X F _ [some _, some _, none, none, none, none] _ _ _
  refine sl_cons (ss_asg (vs := [2, 3, 4, 5]) ?_ )
  refine ee_ixT ?_
  refine ee_glob c (j := 0) mc.LINEAR.gl rfl ?_
  refine ee_var c (i := 0) rfl rfl rfl ?_
  refine ⟨_, _, _, rfl, rfl, atLin k, ?_⟩
  refine eg_tup c (n := 4) ?_ rfl
  refine egs_cons ?_
  refine eg_name c (i := 2) rfl rfl (by decide) (.there (.there .here)) ?_
  refine egs_cons ?_
  refine eg_name c (i := 3) rfl rfl (by decide) (.there (.there (.there .here))) ?_
  refine egs_cons ?_
  refine eg_name c (i := 4) rfl rfl (by decide) (.there (.there (.there (.there .here)))) ?_
  refine egs_cons ?_
  refine eg_name c (i := 5) rfl rfl (by decide) (.there (.there (.there (.there (.there .here))))) ?_
  refine egs_nil ?_
  refine sl_cons (ss_ret ?_)
  refine ee_tup ?_
  refine ea_cons ?_
  refine ee_add ?_
  refine ee_mulO ?_
  refine ee_var c (i := 2) rfl rfl rfl ?_
  refine ee_ixT ?_
  refine ee_var c (i := 1) rfl rfl rfl ?_
  refine ee_int ?_
  refine ⟨_, _, _, rfl, rfl, rfl, ?_⟩
  refine ⟨_, _, rfl, rfl, mulL (LIN_small k).1, ?_⟩
  refine ee_mulO ?_
  refine ee_var c (i := 3) rfl rfl rfl ?_
  refine ee_ixT ?_
  refine ee_var c (i := 1) rfl rfl rfl ?_
  refine ee_int ?_
  refine ⟨_, _, _, rfl, rfl, rfl, ?_⟩
  refine ⟨_, _, rfl, rfl, mulL (LIN_small k).2.1, ?_⟩
  refine ⟨_, _, rfl, rfl, ?_⟩
  refine ea_cons ?_
  refine ee_add ?_
  refine ee_mulO ?_
  refine ee_var c (i := 4) rfl rfl rfl ?_
  refine ee_ixT ?_
  refine ee_var c (i := 1) rfl rfl rfl ?_
  refine ee_int ?_
  refine ⟨_, _, _, rfl, rfl, rfl, ?_⟩
  refine ⟨_, _, rfl, rfl, mulL (LIN_small k).2.2.1, ?_⟩
  refine ee_mulO ?_
  refine ee_var c (i := 5) rfl rfl rfl ?_
  refine ee_ixT ?_
  refine ee_var c (i := 1) rfl rfl rfl ?_
  refine ee_int ?_
  refine ⟨_, _, _, rfl, rfl, rfl, ?_⟩
  refine ⟨_, _, rfl, rfl, mulL (LIN_small k).2.2.2, ?_⟩
  refine ⟨_, _, rfl, rfl, ?_⟩
  refine ea_nil ?_
  refine ⟨Nat.le_of_ble_eq_true rfl, ?_⟩
  exact .pure ⟨rfl, rfl⟩
def W_kind_after : Spec := Pu fun ds p => ∃ (a b : Fin 8), ds = [dK a, dK b] ∧ p = fun d => d = dK (kmul a b)
theorem ok_kind_after {f : Addr} {fd : FuncData} (Fu : FunT K "kind_after" 29 [] f fd) (mb : MB mg) (mc : MC K mg) (f_turned : Fn P w K mg base "turned" 1 2 [] W_turned) : FnOk P w K mg base CX0 2 f fd ["first", "second"] (spW K 2 W_kind_after) := by
  refine fnok_mk (N := ["first", "second", "a", "c", "b", "d"]) (Gs := ["turned", "LINEAR"]) (Vi := [0, 1, 2, 3, 4, 5]) Fu ⟨rfl, rfl, rfl, by decide +kernel, rfl, by decide +kernel, by decide +kernel⟩ (by decide +kernel) rfl ?_
  rintro X F want ds R c hsc ⟨rfl, p, ⟨a, b, rfl, rfl⟩, rfl⟩ hl hF
  show SL X F _ [some _, some _, none, none, none, none] _ _ _
  refine sl_cons (ss_asg (vs := [2, 3]) ?_ )
  refine ee_pcall c (i := 0) f_turned (by decide) rfl ?_
  refine ea_cons ?_
  refine ee_var c (i := 1) rfl rfl rfl ?_
  refine ea_cons ?_
  refine ee_pcall c (i := 0) f_turned (by decide) rfl ?_
  refine ea_cons ?_
  refine ee_var c (i := 0) rfl rfl rfl ?_
  refine ea_cons ?_
  refine ee_tup ?_
  refine ea_cons ?_
  refine ee_int ?_
  refine ea_cons ?_
  refine ee_int ?_
  refine ea_nil ?_
  refine ⟨Nat.le_of_ble_eq_true rfl, ?_⟩
  refine ea_nil ?_
  refine ⟨_, ⟨a, (1, 0), rfl, rfl⟩, rfl, ?_⟩
  rintro _ rfl
  refine ea_nil ?_
  refine ⟨_, ⟨b, _, rfl, rfl⟩, rfl, ?_⟩
  rintro _ rfl
  refine eg_tup c (n := 2) ?_ rfl
  refine egs_cons ?_
  refine eg_name c (i := 2) rfl rfl (by decide) (.there (.there .here)) ?_
  refine egs_cons ?_
  refine eg_name c (i := 3) rfl rfl (by decide) (.there (.there (.there .here))) ?_
  refine egs_nil ?_
  refine sl_cons (ss_asg (vs := [4, 5]) ?_ )
  refine ee_pcall c (i := 0) f_turned (by decide) rfl ?_
  refine ea_cons ?_
  refine ee_var c (i := 1) rfl rfl rfl ?_
  refine ea_cons ?_
  refine ee_pcall c (i := 0) f_turned (by decide) rfl ?_
  refine ea_cons ?_
  refine ee_var c (i := 0) rfl rfl rfl ?_
  refine ea_cons ?_
  refine ee_tup ?_
  refine ea_cons ?_
  refine ee_int ?_
  refine ea_cons ?_
  refine ee_int ?_
  refine ea_nil ?_
  refine ⟨Nat.le_of_ble_eq_true rfl, ?_⟩
  refine ea_nil ?_
  refine ⟨_, ⟨a, (0, 1), rfl, rfl⟩, rfl, ?_⟩
  rintro _ rfl
  refine ea_nil ?_
  refine ⟨_, ⟨b, _, rfl, rfl⟩, rfl, ?_⟩
  rintro _ rfl
  refine eg_tup c (n := 2) ?_ rfl
  refine egs_cons ?_
  refine eg_name c (i := 4) rfl rfl (by decide) (.there (.there (.there (.there .here)))) ?_
  refine egs_cons ?_
  refine eg_name c (i := 5) rfl rfl (by decide) (.there (.there (.there (.there (.there .here))))) ?_
  refine egs_nil ?_
  refine sl_cons (ss_ret ?_)
  refine ee_tindex c (j := 1) mc.LINEAR rfl ?_ rfl
  refine ee_tup ?_
  refine ea_cons ?_
  refine ee_var c (i := 2) rfl rfl rfl ?_
  refine ea_cons ?_
  refine ee_var c (i := 4) rfl rfl rfl ?_
  refine ea_cons ?_
  refine ee_var c (i := 3) rfl rfl rfl ?_
  refine ea_cons ?_
  refine ee_var c (i := 5) rfl rfl rfl ?_
  refine ea_nil ?_
  refine ⟨Nat.le_of_ble_eq_true rfl, ?_⟩
  refine ⟨by decide +kernel, rfl, (kmul a b).val, lin_at a b, lin_first a b, ?_⟩
  exact .pure ⟨rfl, rfl⟩
def W_offset : Spec := Pu fun ds p => ∃ s : Sy, ds = [dS s] ∧ p = fun d => d = dV s.2
theorem ok_offset {f : Addr} {fd : FuncData} (Fu : FunT K "offset" 30 [] f fd) (mb : MB mg) (mc : MC K mg) : FnOk P w K mg base CX0 1 f fd ["symmetry"] (spW K 1 W_offset) := by
  refine fnok_mk (N := ["symmetry"]) (Gs := []) (Vi := [0]) Fu ⟨rfl, rfl, rfl, by decide +kernel, rfl, by decide +kernel, by decide +kernel⟩ (by decide +kernel) rfl ?_
  rintro X F want ds R c hsc ⟨rfl, p, ⟨s, rfl, rfl⟩, rfl⟩ hl hF
  show SL X F _ [some _] _ _ _
  refine sl_cons (ss_ret ?_)
  refine ee_from1 ?_
  refine ee_var c (i := 0) rfl rfl rfl ?_
  refine ⟨_, rfl, ?_⟩
  exact .pure ⟨rfl, rfl⟩
def W_image_of : Spec := Pu fun ds p => ∃ (s : Sy) (v : V2), ds = [dS s, dV v] ∧ p = fun d => d = dV (img s v)
theorem ok_image_of {f : Addr} {fd : FuncData} (Fu : FunT K "image_of" 31 [] f fd) (mb : MB mg) (mc : MC K mg) (f_added : Fn P w K mg base "added" 1 3 [.int 1] W_added) (f_turned : Fn P w K mg base "turned" 1 2 [] W_turned) (f_offset : Fn P w K mg base "offset" 1 1 [] W_offset) : FnOk P w K mg base CX0 2 f fd ["symmetry", "square"] (spW K 2 W_image_of) := by
  refine fnok_mk (N := ["symmetry", "square"]) (Gs := ["added", "turned", "offset"]) (Vi := [0, 1]) Fu ⟨rfl, rfl, rfl, by decide +kernel, rfl, by decide +kernel, by decide +kernel⟩ (by decide +kernel) rfl ?_
  rintro X F want ds R c hsc ⟨rfl, p, ⟨s, v, rfl, rfl⟩, rfl⟩ hl hF
  show SL X F _ [some _, some _] _ _ _
  refine sl_cons (ss_ret ?_)
  refine ee_pcall c (i := 0) f_added (by decide) rfl ?_
  refine ea_cons ?_
  refine ee_pcall c (i := 1) f_turned (by decide) rfl ?_
  refine ea_cons ?_
  refine ee_ixT ?_
  refine ee_var c (i := 0) rfl rfl rfl ?_
  refine ee_int ?_
  refine ⟨_, _, _, rfl, rfl, rfl, ?_⟩
  refine ea_cons ?_
  refine ee_var c (i := 1) rfl rfl rfl ?_
  refine ea_nil ?_
  refine ⟨_, ⟨s.1, v, rfl, rfl⟩, rfl, ?_⟩
  rintro _ rfl
  refine ea_cons ?_
  refine ee_pcall c (i := 2) f_offset (by decide) rfl ?_
  refine ea_cons ?_
  refine ee_var c (i := 0) rfl rfl rfl ?_
  refine ea_nil ?_
  refine ⟨_, ⟨_, rfl, rfl⟩, rfl, ?_⟩
  rintro _ rfl
  refine ea_nil ?_
  refine ⟨_, ⟨_, _, 1, rfl, mulS1 (by decide), mulS1 (by decide), rfl⟩, rfl, ?_⟩
  rintro _ rfl
  exact .pure ⟨by rw [smul1]; rfl, rfl⟩
def W_image : Spec := Pu fun ds p => ∃ (s : Sy) (v : V2), ds = [dS s, dV v] ∧ p = fun d => d = dV (img s v)
theorem ok_image {f : Addr} {fd : FuncData} (Fu : FunT K "image" 32 [] f fd) (mb : MB mg) (mc : MC K mg) (f_need_symmetry : Fn P w K mg base "need_symmetry" 4 1 [] W_need_symmetry) (f_need_square : Fn P w K mg base "need_square" 3 1 [] W_need_square) (f_image_of : Fn P w K mg base "image_of" 2 2 [] W_image_of) : FnOk P w K mg base CX0 5 f fd ["symmetry", "square"] (spW K 2 W_image) := by
  refine fnok_mk (N := ["symmetry", "square"]) (Gs := ["need_symmetry", "need_square", "image_of"]) (Vi := [0, 1]) Fu ⟨rfl, rfl, rfl, by decide +kernel, rfl, by decide +kernel, by decide +kernel⟩ (by decide +kernel) rfl ?_
  rintro X F want ds R c hsc ⟨rfl, p, ⟨s, v, rfl, rfl⟩, rfl⟩ hl hF
  show SL X F _ [some _, some _] _ _ _
  refine sl_cons (ss_expr ?_)
  refine ee_pcall c (i := 0) f_need_symmetry (by decide) rfl ?_
  refine ea_cons ?_
  refine ee_var c (i := 0) rfl rfl rfl ?_
  refine ea_nil ?_
  refine ⟨_, ⟨_, rfl, rfl⟩, rfl, ?_⟩
  rintro _ rfl
  refine sl_cons (ss_expr ?_)
  refine ee_pcall c (i := 1) f_need_square (by decide) rfl ?_
  refine ea_cons ?_
  refine ee_var c (i := 1) rfl rfl rfl ?_
  refine ea_nil ?_
  refine ⟨_, ⟨_, rfl, rfl⟩, rfl, ?_⟩
  rintro _ rfl
  refine sl_cons (ss_ret ?_)
  refine ee_pcall c (i := 2) f_image_of (by decide) rfl ?_
  refine ea_cons ?_
  refine ee_var c (i := 0) rfl rfl rfl ?_
  refine ea_cons ?_
  refine ee_var c (i := 1) rfl rfl rfl ?_
  refine ea_nil ?_
  refine ⟨_, ⟨_, _, rfl, rfl⟩, rfl, ?_⟩
  rintro _ rfl
  exact .pure ⟨rfl, rfl⟩
def W_product_of : Spec := Pu fun ds p => ∃ (a b : Sy), ds = [dS a, dS b] ∧ p = fun d => d = dS (mul a b)
theorem ok_product_of {f : Addr} {fd : FuncData} (Fu : FunT K "product_of" 33 [] f fd) (mb : MB mg) (mc : MC K mg) (f_image_of : Fn P w K mg base "image_of" 2 2 [] W_image_of) (f_kind_after : Fn P w K mg base "kind_after" 2 2 [] W_kind_after) (f_offset : Fn P w K mg base "offset" 1 1 [] W_offset) : FnOk P w K mg base CX0 3 f fd ["first", "second"] (spW K 2 W_product_of) := by
  refine fnok_mk (N := ["first", "second"]) (Gs := ["kind_after", "image_of", "offset"]) (Vi := [0, 1]) Fu ⟨rfl, rfl, rfl, by decide +kernel, rfl, by decide +kernel, by decide +kernel⟩ (by decide +kernel) rfl ?_
  rintro X F want ds R c hsc ⟨rfl, p, ⟨a, b, rfl, rfl⟩, rfl⟩ hl hF
  show SL X F _ [some _, some _] _ _ _
  refine sl_cons (ss_ret ?_)
  refine ee_catT ?_
  refine ee_tup ?_
  refine ea_cons ?_
  refine ee_pcall c (i := 0) f_kind_after (by decide) rfl ?_
  refine ea_cons ?_
  refine ee_ixT ?_
  refine ee_var c (i := 0) rfl rfl rfl ?_
  refine ee_int ?_
  refine ⟨_, _, _, rfl, rfl, rfl, ?_⟩
  refine ea_cons ?_
  refine ee_ixT ?_
  refine ee_var c (i := 1) rfl rfl rfl ?_
  refine ee_int ?_
  refine ⟨_, _, _, rfl, rfl, rfl, ?_⟩
  refine ea_nil ?_
  refine ⟨_, ⟨a.1, b.1, rfl, rfl⟩, rfl, ?_⟩
  rintro _ rfl
  refine ea_nil ?_
  refine ⟨Nat.le_of_ble_eq_true rfl, ?_⟩
  refine ee_pcall c (i := 1) f_image_of (by decide) rfl ?_
  refine ea_cons ?_
  refine ee_var c (i := 1) rfl rfl rfl ?_
  refine ea_cons ?_
  refine ee_pcall c (i := 2) f_offset (by decide) rfl ?_
  refine ea_cons ?_
  refine ee_var c (i := 0) rfl rfl rfl ?_
  refine ea_nil ?_
  refine ⟨_, ⟨_, rfl, rfl⟩, rfl, ?_⟩
  rintro _ rfl
  refine ea_nil ?_
  refine ⟨_, ⟨b, a.2, rfl, rfl⟩, rfl, ?_⟩
  rintro _ rfl
  refine ⟨_, _, rfl, rfl, Nat.le_of_ble_eq_true rfl, ?_⟩
  exact .pure ⟨rfl, rfl⟩
end G
end
section
set_option Elab.async false
set_option linter.all false
set_option maxRecDepth 100000
set_option maxHeartbeats 4000000
/-! M2: lattices in the plane and their normal forms. -/
namespace G
inductive Sp (vs : List V2) : V2 → Prop
  | zero : Sp vs (0, 0)
  | add {u v : V2} : Sp vs u → v ∈ vs → Sp vs (vadd u v)
  | sub {u v : V2} : Sp vs u → v ∈ vs → Sp vs (vsub u v)
theorem Sp.mem {vs : List V2} {v : V2} (h : v ∈ vs) : Sp vs v := by
  have := Sp.add .zero h
  have e : vadd (0, 0) v = v := vadd0 v
  rwa [e] at this
theorem Sp.add' {vs : List V2} {u v : V2} (h : Sp vs u) (g : Sp vs v) : Sp vs (vadd u v) := by
  induction g with
  | zero => have e : vadd u (0, 0) = u := by refine v2_ext ?_ ?_ <;> simp [vadd]
            rwa [e]
  | @add a b _ hb ih =>
    have e : vadd u (vadd a b) = vadd (vadd u a) b := by refine v2_ext ?_ ?_ <;> simp only [vadd] <;> omega
    rw [e]; exact ih.add hb
  | @sub a b _ hb ih =>
    have e : vadd u (vsub a b) = vsub (vadd u a) b := by refine v2_ext ?_ ?_ <;> simp only [vadd, vsub] <;> omega
    rw [e]; exact ih.sub hb
theorem Sp.neg {vs : List V2} {u : V2} (h : Sp vs u) : Sp vs (vneg u) := by
  induction h with
  | zero => exact .zero
  | @add a b _ hb ih =>
    have e : vneg (vadd a b) = vsub (vneg a) b := by refine v2_ext ?_ ?_ <;> simp only [vadd, vneg, vsub] <;> omega
    rw [e]; exact ih.sub hb
  | @sub a b _ hb ih =>
    have e : vneg (vsub a b) = vadd (vneg a) b := by refine v2_ext ?_ ?_ <;> simp only [vadd, vneg, vsub] <;> omega
    rw [e]; exact ih.add hb
theorem Sp.sub' {vs : List V2} {u v : V2} (h : Sp vs u) (g : Sp vs v) : Sp vs (vsub u v) := by
  have e : vsub u v = vadd u (vneg v) := by refine v2_ext ?_ ?_ <;> simp only [vadd, vneg, vsub] <;> omega
  rw [e]; exact h.add' g.neg
theorem smulN_succ (n : Nat) (v : V2) : smul ((n + 1 : Nat) : Int) v = vadd (smul (n : Int) v) v := by
  refine v2_ext ?_ ?_ <;> simp only [smul, vadd] <;> grind
theorem Sp.smulN {vs : List V2} {u : V2} (h : Sp vs u) : ∀ n : Nat, Sp vs (smul (n : Int) u)
  | 0 => by
    have e : smul ((0 : Nat) : Int) u = (0, 0) := by refine v2_ext ?_ ?_ <;> simp [smul]
    rw [e]; exact .zero
  | n + 1 => by rw [smulN_succ]; exact (h.smulN n).add' h
theorem Sp.smul {vs : List V2} {u : V2} (h : Sp vs u) (m : Int) : Sp vs (G.smul m u) := by
  rcases Int.natAbs_eq m with e | e
  · rw [e]; exact h.smulN _
  · rw [e]
    have e2 : G.smul (-(m.natAbs : Int)) u = vneg (G.smul (m.natAbs : Int) u) := by refine v2_ext ?_ ?_ <;> simp only [G.smul, vneg] <;> grind
    rw [e2]; exact (h.smulN _).neg
theorem Sp.sub_of {vs ws : List V2} (h : ∀ v ∈ vs, Sp ws v) {u : V2} (g : Sp vs u) : Sp ws u := by
  induction g with
  | zero => exact .zero
  | add _ hb ih => exact ih.add' (h _ hb)
  | sub _ hb ih => exact ih.sub' (h _ hb)
theorem Sp.mono {vs ws : List V2} (h : ∀ v ∈ vs, v ∈ ws) {u : V2} (g : Sp vs u) : Sp ws u := g.sub_of fun v hv => .mem (h v hv)
/-- a linear property of all -/
theorem Sp.ind {vs : List V2} {p : V2 → Prop} (h0 : p (0, 0)) (ha : ∀ u v, p u → p v → p (vadd u v)) (hn : ∀ u, p u → p (vneg u)) (h : ∀ v ∈ vs, p v) {u : V2} (g : Sp vs u) : p u := by
  induction g with
  | zero => exact h0
  | add _ hb ih => exact ha _ _ ih (h _ hb)
  | @sub a b _ hb ih =>
    have e : vsub a b = vadd a (vneg b) := by refine v2_ext ?_ ?_ <;> simp only [vadd, vneg, vsub] <;> omega
    rw [e]; exact ha _ _ ih (hn _ (h _ hb))
theorem Sp.lin {vs : List V2} (k : Fin 8) {u : V2} (g : Sp vs u) : Sp (vs.map (G.lin k)) (G.lin k u) := by
  refine Sp.ind (p := fun u => Sp (vs.map (G.lin k)) (G.lin k u)) ?_ ?_ ?_ ?_ g
  · rw [lin_zero]; exact .zero
  · intro a b ha hb; rw [lin_add]; exact ha.add' hb
  · intro a ha; rw [lin_neg]; exact ha.neg
  · intro v hv; exact .mem (List.mem_map.mpr ⟨v, hv, rfl⟩)
theorem sp_nil {u : V2} : Sp [] u ↔ u = (0, 0) := by
  constructor
  · intro h
    refine Sp.ind (p := fun u => u = (0, 0)) rfl ?_ ?_ ?_ h
    · rintro _ _ rfl rfl; rfl
    · rintro _ rfl; rfl
    · intro v hv; cases hv
  · rintro rfl; exact .zero
theorem sp_cons {v u : V2} {vs : List V2} : Sp (v :: vs) u ↔ ∃ (m : Int) (w : V2), Sp vs w ∧ u = vadd (smul m v) w := by
  constructor
  · intro h
    refine Sp.ind (p := fun u => ∃ (m : Int) (w : V2), Sp vs w ∧ u = vadd (smul m v) w) ⟨0, (0, 0), .zero, by refine v2_ext ?_ ?_ <;> simp [vadd, smul]⟩ ?_ ?_ ?_ h
    · rintro _ _ ⟨m, a, ha, rfl⟩ ⟨n, b, hb, rfl⟩
      exact ⟨m + n, vadd a b, ha.add' hb, by refine v2_ext ?_ ?_ <;> simp only [vadd, smul] <;> grind⟩
    · rintro _ ⟨m, a, ha, rfl⟩
      exact ⟨-m, vneg a, ha.neg, by refine v2_ext ?_ ?_ <;> simp only [vadd, smul, vneg] <;> grind⟩
    · intro x hx
      rcases List.mem_cons.mp hx with rfl | hx
      · exact ⟨1, (0, 0), .zero, by refine v2_ext ?_ ?_ <;> simp [vadd, smul]⟩
      · exact ⟨0, x, .mem hx, by refine v2_ext ?_ ?_ <;> simp [vadd, smul]⟩
  · rintro ⟨m, w, hw, rfl⟩
    exact (Sp.smul (.mem List.mem_cons_self) m).add' (hw.mono fun x hx => List.mem_cons_of_mem _ hx)
theorem sp_one {v u : V2} : Sp [v] u ↔ ∃ m : Int, u = smul m v := by
  rw [sp_cons]
  constructor
  · rintro ⟨m, w, hw, rfl⟩
    rw [sp_nil.mp hw]
    exact ⟨m, by refine v2_ext ?_ ?_ <;> simp [vadd, smul]⟩
  · rintro ⟨m, rfl⟩
    exact ⟨m, (0, 0), .zero, by refine v2_ext ?_ ?_ <;> simp [vadd, smul]⟩
theorem sp_two {v w u : V2} : Sp [v, w] u ↔ ∃ m n : Int, u = vadd (smul m v) (smul n w) := by
  rw [sp_cons]
  constructor
  · rintro ⟨m, x, hx, rfl⟩
    obtain ⟨n, rfl⟩ := sp_one.mp hx
    exact ⟨m, n, rfl⟩
  · rintro ⟨m, n, rfl⟩
    exact ⟨m, _, sp_one.mpr ⟨n, rfl⟩, rfl⟩
theorem sp_snoc {v u : V2} {vs : List V2} : Sp (vs ++ [v]) u ↔ ∃ (w : V2) (m : Int), Sp vs w ∧ u = vadd w (smul m v) := by
  have e : Sp (vs ++ [v]) u ↔ Sp (v :: vs) u := ⟨fun h => h.mono fun x hx => by simp at hx ⊢; exact hx.symm, fun h => h.mono fun x hx => by simp at hx ⊢; exact hx.symm⟩
  rw [e, sp_cons]
  constructor
  · rintro ⟨m, w, h, rfl⟩; exact ⟨w, m, h, by refine v2_ext ?_ ?_ <;> simp only [vadd] <;> omega⟩
  · rintro ⟨w, m, h, rfl⟩; exact ⟨m, w, h, by refine v2_ext ?_ ?_ <;> simp only [vadd] <;> omega⟩

/-! ### normal forms -/
inductive Nf : List V2 → Prop
  | z : Nf []
  | v {d : Int} : 0 < d → Nf [(0, d)]
  | h {a y : Int} : 0 < a → Nf [(a, y)]
  | f {a y d : Int} : 0 < a → 0 ≤ y → y < d → Nf [(a, y), (0, d)]
def stepc (s v : V2) : Int := if s.1 = 0 then v.2.fdiv s.2 else v.1.fdiv s.1
def red : List V2 → V2 → V2
  | [], v => v
  | s :: r, v => red r (vadd v (smul (0 - stepc s v) s))
theorem red_mem : ∀ (b : List V2) (v : V2), ∃ u, Sp b u ∧ v = vadd (red b v) u
  | [], v => ⟨(0, 0), .zero, by refine v2_ext ?_ ?_ <;> simp [vadd, red]⟩
  | s :: r, v => by
    obtain ⟨u, hu, e⟩ := red_mem r (vadd v (smul (0 - stepc s v) s))
    refine ⟨vadd (smul (stepc s v) s) u, sp_cons.mpr ⟨_, u, hu, rfl⟩, ?_⟩
    have e1 := congrArg Prod.fst e
    have e2 := congrArg Prod.snd e
    refine v2_ext ?_ ?_ <;> simp only [vadd, smul, red] at * <;> grind
theorem fmod_add_mul (p m a : Int) : (p + m * a).fmod a = p.fmod a := by rw [Int.mul_comm]; exact Int.add_mul_fmod_self_left p a m
theorem fdiv_add_mul (p m a : Int) (h : 0 < a) : (p + m * a).fdiv a = p.fdiv a + m := by
  have h1 := Int.fmod_add_mul_fdiv (p + m * a) a
  have h2 := Int.fmod_add_mul_fdiv p a
  rw [fmod_add_mul] at h1
  have : a * ((p + m * a).fdiv a) = a * (p.fdiv a + m) := by grind
  exact Int.eq_of_mul_eq_mul_left (by omega) this
/-- the same class, the same representative -/
theorem red_add {b : List V2} (n : Nf b) {v u : V2} (h : Sp b u) : red b (vadd v u) = red b v := by
  cases n with
  | z => rw [sp_nil.mp h]; refine v2_ext ?_ ?_ <;> simp [vadd, red]
  | @v d hd =>
    obtain ⟨m, rfl⟩ := sp_one.mp h
    simp only [red, stepc, vadd, smul, if_true]
    have e : (v.2 + m * d).fdiv d = v.2.fdiv d + m := fdiv_add_mul _ _ _ hd
    rw [e]
    refine v2_ext ?_ ?_ <;> simp only <;> grind
  | @h a y ha =>
    obtain ⟨m, rfl⟩ := sp_one.mp h
    have h0 : ¬ a = 0 := by omega
    simp only [red, stepc, vadd, smul, if_neg h0]
    rw [fdiv_add_mul _ _ _ ha]
    refine v2_ext ?_ ?_ <;> simp only <;> grind
  | @f a y d ha hy hd =>
    obtain ⟨m, n, rfl⟩ := sp_two.mp h
    have h0 : ¬ a = 0 := by omega
    simp only [red, stepc, vadd, smul, if_neg h0, if_true]
    have e1 : (v.1 + (m * a + n * 0)).fdiv a = v.1.fdiv a + m := by rw [Int.mul_zero, Int.add_zero]; exact fdiv_add_mul _ _ _ ha
    rw [e1]
    have e2 : v.2 + (m * y + n * d) + (0 - (v.1.fdiv a + m)) * y = (v.2 + (0 - v.1.fdiv a) * y) + n * d := by grind
    rw [e2, fdiv_add_mul _ _ _ (by omega)]
    refine v2_ext ?_ ?_ <;> simp only <;> grind
theorem red_iff {b : List V2} (n : Nf b) {v w : V2} : red b v = red b w ↔ Sp b (vsub v w) := by
  constructor
  · intro h
    obtain ⟨u1, h1, e1⟩ := red_mem b v
    obtain ⟨u2, h2, e2⟩ := red_mem b w
    have e : vsub v w = vsub u1 u2 := by
      have a1 := congrArg Prod.fst e1
      have a2 := congrArg Prod.snd e1
      have a3 := congrArg Prod.fst e2
      have a4 := congrArg Prod.snd e2
      rw [h] at a1 a2
      refine v2_ext ?_ ?_ <;> simp only [vsub, vadd] at * <;> omega
    rw [e]; exact h1.sub' h2
  · intro h
    have e : v = vadd w (vsub v w) := by refine v2_ext ?_ ?_ <;> simp only [vadd, vsub] <;> omega
    rw [e]; exact red_add n h
theorem red_zero {b : List V2} (n : Nf b) : red b (0, 0) = (0, 0) := by
  cases n with
  | z => rfl
  | v hd => simp [red, stepc, vadd, smul]
  | h ha => simp [red, stepc, vadd, smul]
  | f ha hy hd => simp [red, stepc, vadd, smul]
theorem vsub0 (v : V2) : vsub v (0, 0) = v := by refine v2_ext ?_ ?_ <;> simp [vsub]
theorem red_eq0 {b : List V2} (n : Nf b) {v : V2} : red b v = (0, 0) ↔ Sp b v := by
  have := red_iff n (v := v) (w := (0, 0))
  rwa [red_zero n, vsub0] at this
theorem red_red {b : List V2} (n : Nf b) (v : V2) : red b (red b v) = red b v := by
  obtain ⟨u, hu, e⟩ := red_mem b v
  have := red_add n (v := red b v) hu
  rw [← e] at this
  exact this.symm
/-- one form for one lattice -/
theorem Nf.uniq {b c : List V2} (n : Nf b) (m : Nf c) (h : ∀ u, Sp b u ↔ Sp c u) : b = c := by
  have key : ∀ (a a' : Int), 0 < a → 0 < a' → (∃ k, a = k * a') → (∃ k, a' = k * a) → a = a' := by
    rintro a a' h1 h2 ⟨k, e1⟩ ⟨l, e2⟩
    have k0 : 0 < k := by
      rcases Int.lt_or_le 0 k with z | z
      · exact z
      · have : k * a' ≤ 0 := Int.mul_nonpos_of_nonpos_of_nonneg z (by omega)
        omega
    have l0 : 0 < l := by
      rcases Int.lt_or_le 0 l with z | z
      · exact z
      · have : l * a ≤ 0 := Int.mul_nonpos_of_nonpos_of_nonneg z (by omega)
        omega
    have g1 : 1 * a' ≤ k * a' := Int.mul_le_mul_of_nonneg_right (by omega) (by omega)
    have g2 : 1 * a ≤ l * a := Int.mul_le_mul_of_nonneg_right (by omega) (by omega)
    omega
  have z1 : ∀ {m a : Int}, 0 < a → m * a = 0 → m = 0 := fun {m a} ha e => by
    rcases Int.mul_eq_zero.mp e with z | z
    · exact z
    · omega
  have z2 : ∀ {m a : Int}, 0 < a → a = m * a → m = 1 := fun {m a} ha e => by
    have : (m - 1) * a = 0 := by grind
    have := z1 ha this
    omega
  cases n with
  | z =>
    cases m with
    | z => rfl
    | @v d hd => have := sp_nil.mp ((h (0, d)).mpr (.mem (by simp))); simp at this; omega
    | @h a y ha => have := sp_nil.mp ((h (a, y)).mpr (.mem (by simp))); simp at this; omega
    | @f a y d ha hy hd => have := sp_nil.mp ((h (a, y)).mpr (.mem (by simp))); simp at this; omega
  | @v d hd =>
    cases m with
    | z => have := sp_nil.mp ((h (0, d)).mp (.mem (by simp))); simp at this; omega
    | @v d' hd' =>
      obtain ⟨k, e1⟩ := sp_one.mp ((h (0, d)).mp (.mem (by simp)))
      obtain ⟨l, e2⟩ := sp_one.mp ((h (0, d')).mpr (.mem (by simp)))
      simp only [smul, Prod.mk.injEq] at e1 e2
      rw [key d d' hd hd' ⟨k, e1.2⟩ ⟨l, e2.2⟩]
    | @h a y ha =>
      obtain ⟨k, e1⟩ := sp_one.mp ((h (a, y)).mpr (.mem (by simp)))
      simp only [smul, Prod.mk.injEq] at e1
      omega
    | @f a y d' ha hy hd' =>
      obtain ⟨k, e1⟩ := sp_one.mp ((h (a, y)).mpr (.mem (by simp)))
      simp only [smul, Prod.mk.injEq] at e1
      omega
  | @h a y ha =>
    cases m with
    | z => have := sp_nil.mp ((h (a, y)).mp (.mem (by simp))); simp at this; omega
    | @v d' hd' =>
      obtain ⟨k, e1⟩ := sp_one.mp ((h (a, y)).mp (.mem (by simp)))
      simp only [smul, Prod.mk.injEq] at e1
      omega
    | @h a' y' ha' =>
      obtain ⟨k, e1⟩ := sp_one.mp ((h (a, y)).mp (.mem (by simp)))
      obtain ⟨l, e2⟩ := sp_one.mp ((h (a', y')).mpr (.mem (by simp)))
      simp only [smul, Prod.mk.injEq] at e1 e2
      have e := key a a' ha ha' ⟨k, e1.1⟩ ⟨l, e2.1⟩
      subst e
      have := z2 ha e1.1
      subst this
      rw [e1.2, Int.one_mul]
    | @f a' y' d ha' hy hd =>
      obtain ⟨k, e1⟩ := sp_one.mp ((h (0, d)).mpr (.mem (by simp)))
      simp only [smul, Prod.mk.injEq] at e1
      have := z1 ha e1.1.symm
      subst this
      omega
  | @f a y d ha hy hd =>
    cases m with
    | z => have := sp_nil.mp ((h (a, y)).mp (.mem (by simp))); simp at this; omega
    | @v d' hd' =>
      obtain ⟨k, e1⟩ := sp_one.mp ((h (a, y)).mp (.mem (by simp)))
      simp only [smul, Prod.mk.injEq] at e1
      omega
    | @h a' y' ha' =>
      obtain ⟨k, e1⟩ := sp_one.mp ((h (0, d)).mp (.mem (by simp)))
      simp only [smul, Prod.mk.injEq] at e1
      have := z1 ha' e1.1.symm
      subst this
      omega
    | @f a' y' d' ha' hy' hd' =>
      obtain ⟨k, n, e1⟩ := sp_two.mp ((h (a, y)).mp (.mem (by simp)))
      obtain ⟨l, n2, e2⟩ := sp_two.mp ((h (a', y')).mpr (.mem (by simp)))
      obtain ⟨k3, n3, e3⟩ := sp_two.mp ((h (0, d)).mp (.mem (by simp)))
      obtain ⟨k4, n4, e4⟩ := sp_two.mp ((h (0, d')).mpr (.mem (by simp)))
      simp only [smul, vadd, Prod.mk.injEq, Int.mul_zero, Int.add_zero] at e1 e2 e3 e4
      have e := key a a' ha ha' ⟨k, e1.1⟩ ⟨l, e2.1⟩
      subst e
      have := z2 ha e1.1
      subst this
      have := z1 ha e3.1.symm
      subst this
      have := z1 ha e4.1.symm
      subst this
      have e := key d d' (by omega) (by omega) ⟨n3, by omega⟩ ⟨n4, by omega⟩
      subst e
      have hn : n * d = y - y' := by omega
      have n0 : n = 0 := by
        rcases Int.lt_trichotomy n 0 with z | z | z
        · have : n * d ≤ -1 * d := Int.mul_le_mul_of_nonneg_right (by omega) (by omega)
          omega
        · exact z
        · have : 1 * d ≤ n * d := Int.mul_le_mul_of_nonneg_right (by omega) (by omega)
          omega
      subst n0
      have : y = y' := by omega
      rw [this]
end G
end
section
set_option Elab.async false
set_option linter.all false
set_option maxRecDepth 100000
set_option maxHeartbeats 4000000
/-! M3: Euclid on vectors, the normal form it gives, bounds. -/
namespace G
theorem sp_eq {vs ws : List V2} (h : ∀ v ∈ vs, Sp ws v) (g : ∀ w ∈ ws, Sp vs w) (u : V2) : Sp vs u ↔ Sp ws u := ⟨Sp.sub_of h, Sp.sub_of g⟩
theorem bez : ∀ (a b : Nat), ∃ u v : Int, ((Nat.gcd a b : Nat) : Int) = u * a + v * b := by
  intro a b
  induction a, b using Nat.gcd.induction with
  | H0 n => exact ⟨0, 1, by simp⟩
  | H1 m n hm ih =>
    obtain ⟨u, v, e⟩ := ih
    refine ⟨v - u * ((n / m : Nat) : Int), u, ?_⟩
    rw [Nat.gcd_rec, e]
    have h : (n : Int) = m * ((n / m : Nat) : Int) + ((n % m : Nat) : Int) := by
      have := Nat.div_add_mod n m
      omega
    grind
theorem bezI (a b : Int) : ∃ u v : Int, ((Int.gcd a b : Nat) : Int) = u * a + v * b := by
  obtain ⟨u, v, e⟩ := bez a.natAbs b.natAbs
  have h : ∀ x : Int, ∃ s : Int, (x.natAbs : Int) = s * x := fun x => by
    rcases Int.natAbs_eq x with z | z
    · exact ⟨1, by omega⟩
    · exact ⟨-1, by omega⟩
  obtain ⟨s, hs⟩ := h a
  obtain ⟨t, ht⟩ := h b
  refine ⟨u * s, v * t, ?_⟩
  show ((Nat.gcd a.natAbs b.natAbs : Nat) : Int) = _
  rw [e, hs, ht]; grind
theorem sp_gcd (f : V2) (l y : Int) (u : V2) : Sp [f, (0, y), (0, l)] u ↔ Sp [f, (0, ((Int.gcd l y : Nat) : Int))] u := by
  refine sp_eq ?_ ?_ u
  · intro v hv
    simp only [List.mem_cons, List.not_mem_nil, or_false] at hv
    rcases hv with rfl | rfl | rfl
    · exact .mem (by simp)
    · obtain ⟨k, e⟩ := Int.gcd_dvd_right l y
      have := Sp.smul (vs := [f, (0, ((Int.gcd l y : Nat) : Int))]) (.mem (v := (0, ((Int.gcd l y : Nat) : Int))) (by simp)) k
      have e2 : smul k (0, ((Int.gcd l y : Nat) : Int)) = (0, y) := by
        refine v2_ext (by simp [smul]) ?_
        show k * ((Int.gcd l y : Nat) : Int) = y
        rw [Int.mul_comm]; exact e.symm
      rwa [e2] at this
    · obtain ⟨k, e⟩ := Int.gcd_dvd_left l y
      have := Sp.smul (vs := [f, (0, ((Int.gcd l y : Nat) : Int))]) (.mem (v := (0, ((Int.gcd l y : Nat) : Int))) (by simp)) k
      have e2 : smul k (0, ((Int.gcd l y : Nat) : Int)) = (0, l) := by
        refine v2_ext (by simp [smul]) ?_
        show k * ((Int.gcd l y : Nat) : Int) = l
        rw [Int.mul_comm]; exact e.symm
      rwa [e2] at this
  · intro v hv
    simp only [List.mem_cons, List.not_mem_nil, or_false] at hv
    rcases hv with rfl | rfl
    · exact .mem (by simp)
    · obtain ⟨a, b, e⟩ := bezI l y
      have h1 := Sp.smul (vs := [f, (0, y), (0, l)]) (.mem (v := (0, l)) (by simp)) a
      have h2 := Sp.smul (vs := [f, (0, y), (0, l)]) (.mem (v := (0, y)) (by simp)) b
      have := h1.add' h2
      have e2 : vadd (smul a (0, l)) (smul b (0, y)) = (0, ((Int.gcd l y : Nat) : Int)) := by
        rw [e]
        refine v2_ext ?_ ?_ <;> simp [smul, vadd]
      rwa [e2] at this
/-- one step of Euclid -/
def euc (f g : V2) : V2 := (f.1 - f.1.fdiv g.1 * g.1, f.2 - f.1.fdiv g.1 * g.2)
theorem sp_euc (f g : V2) (l : Int) (u : V2) : Sp [f, g, (0, l)] u ↔ Sp [g, euc f g, (0, l)] u := by
  have e : euc f g = vadd f (smul (-(f.1.fdiv g.1)) g) := by refine v2_ext ?_ ?_ <;> simp only [euc, vadd, smul] <;> grind
  have e2 : f = vadd (euc f g) (smul (f.1.fdiv g.1) g) := by refine v2_ext ?_ ?_ <;> simp only [euc, vadd, smul] <;> grind
  refine sp_eq ?_ ?_ u
  · intro v hv
    simp only [List.mem_cons, List.not_mem_nil, or_false] at hv
    rcases hv with rfl | rfl | rfl
    · have := (Sp.mem (vs := [g, euc v g, (0, l)]) (v := euc v g) (by simp)).add' (Sp.smul (.mem (v := g) (by simp)) (v.1.fdiv g.1))
      rwa [← e2] at this
    · exact .mem (by simp)
    · exact .mem (by simp)
  · intro v hv
    simp only [List.mem_cons, List.not_mem_nil, or_false] at hv
    rcases hv with rfl | rfl | rfl
    · exact .mem (by simp)
    · rw [e]
      exact (Sp.mem (by simp)).add' (Sp.smul (.mem (by simp)) _)
    · exact .mem (by simp)
theorem euc_fst (f g : V2) (h : g.1 ≠ 0) : (euc f g).1 = f.1.fmod g.1 := by
  have := Int.fmod_add_mul_fdiv f.1 g.1
  show f.1 - f.1.fdiv g.1 * g.1 = _
  rw [Int.mul_comm]; omega
theorem natAbs_fmod {a b : Int} (h : b ≠ 0) : (a.fmod b).natAbs < b.natAbs := by
  rcases Int.lt_or_gt_of_ne h with h | h
  · have e : a.fmod b = -((-a).fmod (-b)) := by rw [Int.neg_fmod_neg]; omega
    have h1 := Int.fmod_nonneg_of_pos (-a) (show 0 < -b by omega)
    have h2 := Int.fmod_lt_of_pos (-a) (show 0 < -b by omega)
    omega
  · have h1 := Int.fmod_nonneg_of_pos a h
    have h2 := Int.fmod_lt_of_pos a h
    omega
theorem euc_lt (f g : V2) (h : g.1 ≠ 0) : (euc f g).1.natAbs < g.1.natAbs := by rw [euc_fst f g h]; exact natAbs_fmod h
def dt (f g : V2) : Int := f.1 * g.2 - g.1 * f.2
theorem dt_euc (f g : V2) : dt g (euc f g) = -(dt f g) := by simp only [dt, euc]; grind
theorem euc_bound (f g : V2) (M : Nat) (h : g.1 ≠ 0) (hD : (dt f g).natAbs ≤ M) (hy : g.2.natAbs ≤ M) : (dt g (euc f g)).natAbs ≤ M ∧ (euc f g).2.natAbs ≤ M := by
  have h1 : (dt g (euc f g)).natAbs ≤ M := by rw [dt_euc]; omega
  refine ⟨h1, ?_⟩
  have hl := euc_lt f g h
  generalize euc f g = c at *
  have e : g.1 * c.2 = dt g c + c.1 * g.2 := by simp only [dt]; omega
  have e2 : g.1.natAbs * c.2.natAbs ≤ M + c.1.natAbs * M := by
    rw [← Int.natAbs_mul, e]
    have t1 := Int.natAbs_add_le (dt g c) (c.1 * g.2)
    have t2 : (c.1 * g.2).natAbs ≤ c.1.natAbs * M := by rw [Int.natAbs_mul]; exact Nat.mul_le_mul_left _ hy
    omega
  have e3 : M + c.1.natAbs * M ≤ g.1.natAbs * M := by
    have : (c.1.natAbs + 1) * M ≤ g.1.natAbs * M := Nat.mul_le_mul_right _ hl
    rw [Nat.add_mul] at this; omega
  have gp : 0 < g.1.natAbs := by omega
  exact Nat.le_of_mul_le_mul_left (Nat.le_trans e2 e3) gp
/-- the end of basis_of -/
def nfOf (f : V2) (l : Int) : List V2 :=
  let f' := if f.1 < 0 then (0 - f.1, 0 - f.2) else f
  if f'.1 = 0 then (if 0 < l then [(0, l)] else []) else if l = 0 then [f'] else [(f'.1, f'.2.fmod l), (0, l)]
theorem nfOf_ok (f : V2) (l : Int) (h0 : f.1 = 0 → f.2 = 0) (hl : 0 ≤ l) : Nf (nfOf f l) ∧ ∀ u, Sp (nfOf f l) u ↔ Sp [f, (0, l)] u := by
  have main : ∀ f : V2, (f.1 = 0 → f.2 = 0) → 0 ≤ f.1 → Nf (if f.1 = 0 then (if 0 < l then [(0, l)] else []) else if l = 0 then [f] else [(f.1, f.2.fmod l), (0, l)]) ∧
      ∀ u, Sp (if f.1 = 0 then (if 0 < l then [(0, l)] else []) else if l = 0 then [f] else [(f.1, f.2.fmod l), (0, l)]) u ↔ Sp [f, (0, l)] u := by
    rintro ⟨x, y⟩ h1 h2
    simp only at h1 h2 ⊢
    by_cases hx : x = 0
    · subst hx
      obtain rfl := h1 rfl
      simp only [if_true]
      by_cases hp : 0 < l
      · rw [if_pos hp]
        refine ⟨.v hp, fun u => sp_eq ?_ ?_ u⟩
        · intro v hv; exact .mem (by simp at hv ⊢; exact .inr hv)
        · intro v hv
          simp only [List.mem_cons, List.not_mem_nil, or_false] at hv
          rcases hv with rfl | rfl
          · exact .zero
          · exact .mem (by simp)
      · rw [if_neg hp]
        obtain rfl : l = 0 := by omega
        refine ⟨.z, fun u => sp_eq ?_ ?_ u⟩
        · intro v hv; cases hv
        · intro v hv
          simp only [List.mem_cons, List.not_mem_nil, or_false] at hv
          rcases hv with rfl | rfl <;> exact .zero
    · rw [if_neg hx]
      by_cases hz : l = 0
      · subst hz
        simp only [if_true]
        refine ⟨.h (by omega), fun u => sp_eq ?_ ?_ u⟩
        · intro v hv; exact .mem (by simp at hv ⊢; exact .inl hv)
        · intro v hv
          simp only [List.mem_cons, List.not_mem_nil, or_false] at hv
          rcases hv with rfl | rfl
          · exact .mem (by simp)
          · exact .zero
      · rw [if_neg hz]
        have lp : 0 < l := by omega
        have hm := Int.fmod_add_mul_fdiv y l
        refine ⟨.f (by omega) (Int.fmod_nonneg_of_pos y lp) (Int.fmod_lt_of_pos y lp), fun u => sp_eq ?_ ?_ u⟩
        · intro v hv
          simp only [List.mem_cons, List.not_mem_nil, or_false] at hv
          rcases hv with rfl | rfl
          · refine sp_two.mpr ⟨1, -(y.fdiv l), ?_⟩
            refine v2_ext ?_ ?_ <;> simp only [vadd, smul] <;> grind
          · exact .mem (by simp)
        · intro v hv
          simp only [List.mem_cons, List.not_mem_nil, or_false] at hv
          rcases hv with rfl | rfl
          · refine sp_two.mpr ⟨1, y.fdiv l, ?_⟩
            refine v2_ext ?_ ?_ <;> simp only [vadd, smul] <;> grind
          · exact .mem (by simp)
  unfold nfOf
  by_cases hn : f.1 < 0
  · simp only [if_pos hn]
    obtain ⟨a, b⟩ := main (0 - f.1, 0 - f.2) (fun z => by simp only at z; omega) (by simp only; omega)
    refine ⟨a, fun u => (b u).trans (sp_eq ?_ ?_ u)⟩
    · intro v hv
      simp only [List.mem_cons, List.not_mem_nil, or_false] at hv
      rcases hv with rfl | rfl
      · have := (Sp.mem (vs := [f, (0, l)]) (v := f) (by simp)).neg
        have e : vneg f = (0 - f.1, 0 - f.2) := by refine v2_ext ?_ ?_ <;> simp only [vneg] <;> omega
        rwa [e] at this
      · exact .mem (by simp)
    · intro v hv
      simp only [List.mem_cons, List.not_mem_nil, or_false] at hv
      rcases hv with rfl | rfl
      · have := (Sp.mem (vs := [(0 - v.1, 0 - v.2), (0, l)]) (v := (0 - v.1, 0 - v.2)) (by simp)).neg
        have e : vneg (0 - v.1, 0 - v.2) = v := by refine v2_ext ?_ ?_ <;> simp only [vneg] <;> omega
        rwa [e] at this
      · exact .mem (by simp)
  · simp only [if_neg hn]
    exact main f h0 (by omega)
/-! ### how great a normal form may be -/
theorem dt_sp {vs : List V2} {w : V2} (h : ∀ v ∈ vs, dt v w = 0) {u : V2} (g : Sp vs u) : dt u w = 0 := by
  refine Sp.ind (p := fun u => dt u w = 0) (by simp [dt]) ?_ ?_ h g
  · intro a b ha hb; simp only [dt, vadd] at *; grind
  · intro a ha; simp only [dt, vneg] at *; grind
theorem dt_swap (v w : V2) : dt v w = -(dt w v) := by simp only [dt]; grind
theorem natAbs_mul_ge {m a : Int} (h : m ≠ 0) : a.natAbs ≤ (m * a).natAbs := by
  rw [Int.natAbs_mul]
  have : 1 ≤ m.natAbs := by omega
  calc a.natAbs = 1 * a.natAbs := by omega
    _ ≤ _ := Nat.mul_le_mul_right _ this
/-- all entries at most S -/
def Ab (S : Nat) (v : V2) : Prop := v.1.natAbs ≤ S ∧ v.2.natAbs ≤ S
theorem nf_bound {b vs : List V2} {S : Nat} (n : Nf b) (h : ∀ u, Sp b u ↔ Sp vs u) (hs : ∀ v ∈ vs, Ab S v) :
    ∀ v ∈ b, v.1.natAbs ≤ S ∧ v.2.natAbs ≤ 2 * S * S + S ∧ (b.length ≤ 1 → v.2.natAbs ≤ S) := by
  cases n with
  | z => intro v hv; cases hv
  | @v d hd =>
    have ⟨w, hw, h0⟩ : ∃ w ∈ vs, w ≠ (0, 0) := by
      apply Classical.byContradiction
      intro hc
      have : Sp vs (0, d) := (h _).mp (.mem (by simp))
      have : ((0, d) : V2) = (0, 0) := Sp.ind (p := fun u => u = (0, 0)) rfl (by rintro _ _ rfl rfl; rfl) (by rintro _ rfl; rfl) (fun v hv => Classical.byContradiction fun z => hc ⟨v, hv, z⟩) this
      simp at this; omega
    obtain ⟨m, e⟩ := sp_one.mp ((h w).mpr (.mem hw))
    have hm : m ≠ 0 := fun z => h0 (by rw [e, z, smul0])
    have := (hs w hw).2
    have e2 : w.2 = m * d := by rw [e]; rfl
    rw [e2] at this
    have := natAbs_mul_ge (a := d) hm
    intro v hv
    simp only [List.mem_cons, List.not_mem_nil, or_false] at hv
    subst hv
    simp only
    refine ⟨by omega, ?_, fun _ => by omega⟩
    have : 0 ≤ 2 * S * S := Nat.zero_le _
    omega
  | @h a y ha =>
    have ⟨w, hw, h0⟩ : ∃ w ∈ vs, w ≠ (0, 0) := by
      apply Classical.byContradiction
      intro hc
      have : Sp vs (a, y) := (h _).mp (.mem (by simp))
      have : ((a, y) : V2) = (0, 0) := Sp.ind (p := fun u => u = (0, 0)) rfl (by rintro _ _ rfl rfl; rfl) (by rintro _ rfl; rfl) (fun v hv => Classical.byContradiction fun z => hc ⟨v, hv, z⟩) this
      simp at this; omega
    obtain ⟨m, e⟩ := sp_one.mp ((h w).mpr (.mem hw))
    have hm : m ≠ 0 := fun z => h0 (by rw [e, z, smul0])
    have g2 := (hs w hw).2
    have g1 := (hs w hw).1
    have e2 : w.2 = m * y := by rw [e]; rfl
    have e1 : w.1 = m * a := by rw [e]; rfl
    rw [e2] at g2
    rw [e1] at g1
    have k1 := natAbs_mul_ge (a := a) hm
    have k2 := natAbs_mul_ge (a := y) hm
    intro v hv
    simp only [List.mem_cons, List.not_mem_nil, or_false] at hv
    subst hv
    simp only
    refine ⟨by omega, ?_, fun _ => by omega⟩
    have : 0 ≤ 2 * S * S := Nat.zero_le _
    omega
  | @f a y d ha hy hd =>
    have dne : dt (a, y) (0, d) ≠ 0 := by
      simp only [dt]
      have : 0 < a * d := Int.mul_pos ha (by omega)
      omega
    have ⟨v1, hv, w, hw, h0⟩ : ∃ v ∈ vs, ∃ w ∈ vs, dt v w ≠ 0 := by
      apply Classical.byContradiction
      intro hc
      have h1 : ∀ w ∈ vs, ∀ u, Sp vs u → dt u w = 0 := fun w hw u hu => dt_sp (fun v hv => Classical.byContradiction fun z => hc ⟨v, hv, w, hw, z⟩) hu
      have h2 : ∀ u v, Sp vs u → Sp vs v → dt u v = 0 := fun u v hu hv => by
        rw [dt_swap, dt_sp (fun w hw => by rw [dt_swap, h1 w hw u hu]; rfl) hv]; rfl
      exact dne (h2 _ _ ((h _).mp (.mem (by simp))) ((h _).mp (.mem (by simp))))
    obtain ⟨m1, n1, e1⟩ := sp_two.mp ((h v1).mpr (.mem hv))
    obtain ⟨m2, n2, e2⟩ := sp_two.mp ((h w).mpr (.mem hw))
    have ed : dt v1 w = (m1 * n2 - m2 * n1) * (a * d) := by rw [e1, e2]; simp only [dt, vadd, smul]; grind
    have mne : m1 * n2 - m2 * n1 ≠ 0 := fun z => h0 (by rw [ed, z, Int.zero_mul])
    have g := natAbs_mul_ge (a := a * d) mne
    rw [← ed] at g
    have gd : (dt v1 w).natAbs ≤ 2 * S * S := by
      have t1 : (v1.1 * w.2).natAbs ≤ S * S := by rw [Int.natAbs_mul]; exact Nat.mul_le_mul (hs v1 hv).1 (hs w hw).2
      have t2 : (w.1 * v1.2).natAbs ≤ S * S := by rw [Int.natAbs_mul]; exact Nat.mul_le_mul (hs w hw).1 (hs v1 hv).2
      have e : 2 * S * S = S * S + S * S := by rw [Nat.mul_assoc]; omega
      simp only [dt]
      omega
    have da : d.natAbs ≤ (a * d).natAbs := natAbs_mul_ge (by omega)
    have ⟨x, hx, hx0⟩ : ∃ x ∈ vs, x.1 ≠ 0 := by
      apply Classical.byContradiction
      intro hc
      have hvx : v1.1 = 0 := Classical.byContradiction fun z => hc ⟨v1, hv, z⟩
      have hwx : w.1 = 0 := Classical.byContradiction fun z => hc ⟨w, hw, z⟩
      exact h0 (by simp [dt, hvx, hwx])
    obtain ⟨m3, n3, e3⟩ := sp_two.mp ((h x).mpr (.mem hx))
    have e4 : x.1 = m3 * a := by rw [e3]; simp [vadd, smul]
    have m3n : m3 ≠ 0 := fun z => hx0 (by rw [e4, z, Int.zero_mul])
    have ga := natAbs_mul_ge (a := a) m3n
    rw [← e4] at ga
    have := (hs x hx).1
    intro z hz
    simp only [List.mem_cons, List.not_mem_nil, or_false] at hz
    rcases hz with rfl | rfl
    · simp only
      refine ⟨by omega, by omega, fun z => by simp at z⟩
    · simp only
      refine ⟨by omega, by omega, fun z => by simp at z⟩
end G
end
section
set_option Elab.async false
set_option linter.all false
set_option maxRecDepth 100000
set_option maxHeartbeats 4000000
/-! G11: bounds of vectors; small facts. -/
namespace G
open PySem L2
def BV (n : Nat) (v : V2) : Prop := Bt n v.1 ∧ Bt n v.2
def BL (n : Nat) (vs : List V2) : Prop := ∀ v ∈ vs, BV n v
theorem BV.mono {n m : Nat} {v : V2} (h : BV n v) (hn : n ≤ m) : BV m v := ⟨h.1.mono hn, h.2.mono hn⟩
theorem BV.add {n m k : Nat} {v w : V2} (h : BV n v) (g : BV m w) (hn : n < k) (hm : m < k) : BV k (vadd v w) := ⟨h.1.add g.1 hn hm, h.2.add g.2 hn hm⟩
theorem BV.sub {n m k : Nat} {v w : V2} (h : BV n v) (g : BV m w) (hn : n < k) (hm : m < k) : BV k (vsub v w) := ⟨h.1.sub g.1 hn hm, h.2.sub g.2 hn hm⟩
theorem BV.neg {n : Nat} {v : V2} (h : BV n v) : BV n (vneg v) := ⟨h.1.neg, h.2.neg⟩
theorem BV.smul {n m : Nat} {v : V2} {i : Int} (h : Bt m i) (g : BV n v) : BV (m + n) (G.smul i v) := ⟨h.mul g.1, h.mul g.2⟩
theorem Bt.zero {n : Nat} : Bt n 0 := Nat.two_pow_pos n
theorem BV.zero {n : Nat} : BV n (0, 0) := ⟨.zero, .zero⟩
theorem lin_abs (k : Fin 8) (v : V2) : ((lin k v).1.natAbs = v.1.natAbs ∧ (lin k v).2.natAbs = v.2.natAbs) ∨ ((lin k v).1.natAbs = v.2.natAbs ∧ (lin k v).2.natAbs = v.1.natAbs) := by
  refine kall (p := fun k => ((lin k v).1.natAbs = v.1.natAbs ∧ (lin k v).2.natAbs = v.2.natAbs) ∨ ((lin k v).1.natAbs = v.2.natAbs ∧ (lin k v).2.natAbs = v.1.natAbs)) ?_ k
  refine ⟨?_, ?_, ?_, ?_, ?_, ?_, ?_, ?_⟩
  · left; simp [lin, show LIN 0 = (1, 0, 0, 1) from rfl]
  · right; simp [lin, show LIN 1 = (0, -1, 1, 0) from rfl]
  · left; simp [lin, show LIN 2 = (-1, 0, 0, -1) from rfl]
  · right; simp [lin, show LIN 3 = (0, 1, -1, 0) from rfl]
  · left; simp [lin, show LIN 4 = (-1, 0, 0, 1) from rfl]
  · right; simp [lin, show LIN 5 = (0, -1, -1, 0) from rfl]
  · left; simp [lin, show LIN 6 = (1, 0, 0, -1) from rfl]
  · right; simp [lin, show LIN 7 = (0, 1, 1, 0) from rfl]
theorem BV.lin {n : Nat} {v : V2} (k : Fin 8) (h : BV n v) : BV n (G.lin k v) := by
  rcases lin_abs k v with ⟨h1, h2⟩ | ⟨h1, h2⟩
  · exact ⟨by unfold Bt; rw [h1]; exact h.1, by unfold Bt; rw [h2]; exact h.2⟩
  · exact ⟨by unfold Bt; rw [h1]; exact h.2, by unfold Bt; rw [h2]; exact h.1⟩
theorem BV.img {n m k : Nat} {s : Sy} {p : V2} (h : BV n s.2) (g : BV m p) (hn : n < k) (hm : m < k) : BV k (G.img s p) := (g.lin s.1).add h hm hn
theorem BV.mul {n m k : Nat} {a b : Sy} (h : BV n a.2) (g : BV m b.2) (hn : n < k) (hm : m < k) : BV k (G.mul a b).2 := BV.img g h hm hn
theorem BV.inv {n : Nat} {a : Sy} (h : BV n a.2) : BV n (G.inv a).2 := (h.lin _).neg
theorem Nf.lead {b : List V2} (n : Nf b) {s : V2} (h : s ∈ b) : (if s.1 = 0 then s.2 else s.1) ≠ 0 := by
  cases n with
  | z => cases h
  | v hd => simp only [List.mem_cons, List.not_mem_nil, or_false] at h; subst h; simp; omega
  | h ha => simp only [List.mem_cons, List.not_mem_nil, or_false] at h; subst h; simp only; rw [if_neg (by omega)]; omega
  | f ha hy hd =>
    simp only [List.mem_cons, List.not_mem_nil, or_false] at h
    rcases h with rfl | rfl
    · simp only; rw [if_neg (by omega)]; omega
    · simp; omega
theorem Nf.len {b : List V2} (n : Nf b) : b.length ≤ 2 := by cases n <;> simp
theorem stepc_eq (s v : V2) : (if s.1 = 0 then v.2 else v.1).fdiv (if s.1 = 0 then s.2 else s.1) = stepc s v := by unfold stepc; split <;> rfl
theorem BV.ite {n : Nat} {v : V2} {c : Prop} [Decidable c] (h : BV n v) : Bt n (if c then v.2 else v.1) := by split; exact h.2; exact h.1
theorem Bt.stepc {n : Nat} {s v : V2} (h : BV n v) : Bt n (stepc s v) := by rw [← stepc_eq]; exact (BV.ite h).fdiv
theorem atLead (v : V2) {c : Prop} [Decidable c] : atI [D.int v.1, D.int v.2] (if c then (1 : Int) else 0) = some (.int (if c then v.2 else v.1)) := by split <;> rfl
theorem rangeGet {f : Nat → D} {m i : Nat} {d : D} (h : ((List.range m).map f)[i]? = some d) : i < m ∧ d = f i := by
  obtain ⟨n, hn, rfl⟩ := getMap h
  have h1 := getLt hn
  rw [List.length_range] at h1
  have : (List.range m)[i]? = some i := by simp [h1]
  rw [this] at hn
  cases hn
  exact ⟨h1, rfl⟩
theorem BV.red {n m : Nat} {b : List V2} (nf : Nf b) (hb : BL n b) {v : V2} (hv : BV m v) : BV (m + 2 * n + 2) (red b v) := by
  have st : ∀ {k : Nat} {s w : V2}, BV n s → BV k w → BV (k + n + 1) (vadd w (G.smul (0 - G.stepc s w) s)) := fun {k s w} hs hw => by
    have h1 : Bt k (0 - G.stepc s w) := by rw [Int.zero_sub]; exact (Bt.stepc hw).neg
    exact hw.add (BV.smul h1 hs) (by omega) (by omega)
  cases nf with
  | z => exact hv.mono (by omega)
  | @v d hd => exact (st (hb _ (by simp)) hv).mono (by omega)
  | @h a y ha => exact (st (hb _ (by simp)) hv).mono (by omega)
  | @f a y d ha hy hd => exact (st (hb _ (by simp)) (st (hb _ (by simp)) hv)).mono (by omega)
section
variable {X : Cx} {F : Fr} {en : Env} {st : Sto}
/-- what is known of a value, less -/
theorem ee_wk {e : Expr} {Q : D → Sto → Prop} (q : EE X F en e st fun d st1 => ∃ d', (∀ H v, At X.K H v d → At X.K H v d') ∧ Q d' st1) : EE X F en e st Q :=
  .intro fun σ H k a b h => q.use a b fun d st' v H' ⟨d', hw, q'⟩ a' t' at' => h d' st' v H' q' a' t' (hw _ _ at')
theorem at_wk2 {K : PySem.W.Frag} {d e : D} {H : Hp} {v : V} (h : At K H v (.tup [d, e])) : At K H v (.tup [.any, e]) := by
  obtain ⟨a, xs, h1, h2, h3⟩ := at_tup.mp h
  obtain ⟨v1, r, rfl, g1, g2⟩ := ats_cons.mp h3
  exact at_tup.mpr ⟨a, _, h1, h2, ats_cons.mpr ⟨v1, r, rfl, at_any.mpr trivial, g2⟩⟩
theorem at_wk3 {K : PySem.W.Frag} {d e : D} {H : Hp} {v : V} (h : At K H v (.tup [d, e])) : At K H v (.tup [d, .any]) := by
  obtain ⟨a, xs, h1, h2, h3⟩ := at_tup.mp h
  obtain ⟨v1, r, rfl, g1, g2⟩ := ats_cons.mp h3
  obtain ⟨v2, r, rfl, g3, g4⟩ := ats_cons.mp g2
  exact at_tup.mpr ⟨a, _, h1, h2, ats_cons.mpr ⟨v1, _, rfl, g1, ats_cons.mpr ⟨v2, r, rfl, at_any.mpr trivial, g4⟩⟩⟩
end
theorem gcd_fmod (a b : Int) : Int.gcd b (a.fmod b) = Int.gcd a b := by
  rw [Int.gcd_comm a b]
  have e : a.fmod b = a + b * (-(a.fdiv b)) := by
    have := Int.fmod_add_mul_fdiv a b
    rw [Int.mul_neg]; omega
  rw [e]
  exact Int.gcd_add_mul_left_right ..
theorem inv_filter (k : Fin 8) : kinds.filter (fun j => kmul k j = 0) = [kinv k] := by revert k; decide +kernel
theorem turns_iff (k : Fin 8) : dK k ∈ [D.int 1, D.int 3] ↔ (k = 1 ∨ k = 3) := by
  simp only [List.mem_cons, List.not_mem_nil, or_false, dK, D.int.injEq]
  constructor
  · rintro (h | h)
    · exact .inl (Fin.ext (by show k.val = 1; omega))
    · exact .inr (Fin.ext (by show k.val = 3; omega))
  · rintro (rfl | rfl)
    · exact .inl rfl
    · exact .inr rfl
end G
end
section
set_option Elab.async false
set_option linter.all false
set_option maxRecDepth 100000
set_option maxHeartbeats 4000000
namespace G
open PySem L2
variable {P : Program} {w : World} {K : PySem.W.Frag} {mg : Str → Option Value} {base : Heap}
def W_divisor : Spec := Pu fun ds p => ∃ a b : Int, ds = [.int a, .int b] ∧ p = fun d => d = .int (Int.gcd a b : Nat)
theorem ok_divisor {f : Addr} {fd : FuncData} (Fu : FunT K "divisor" 10 [] f fd) (mb : MB mg) (mc : MC K mg) : FnOk P w K mg base CX0 1 f fd ["one", "other"] (spW K 2 W_divisor) := by
  refine fnok_mk (N := ["one", "other"]) (Gs := ["abs"]) (Vi := [0, 1]) Fu ⟨rfl, rfl, rfl, by decide +kernel, rfl, by decide +kernel, by decide +kernel⟩ (by decide +kernel) rfl ?_
  rintro X F want ds R c hsc ⟨rfl, p, ⟨a, b, rfl, rfl⟩, rfl⟩ hl hF
  show SL X F _ [some _, some _] _ _ _
  refine sl_cons (ss_while c (fun m en st => ∃ x y : Int, en = [some (.int x), some (.int y)] ∧ st = [] ∧ Int.gcd x y = Int.gcd a b ∧ m = y.natAbs) ⟨_, a, b, rfl, rfl, rfl, rfl⟩ ?_)
  rintro m en1 st1 ⟨x, y, rfl, rfl, hg, rfl⟩
  refine et_neI ?_
  refine ee_var c (i := 1) rfl rfl rfl ?_
  refine ee_int ?_
  refine ⟨_, _, rfl, rfl, ?_⟩
  refine ⟨fun h1 => ?_, fun h1 => ?_⟩
  · refine isT ?_
    refine sl_cons (ss_par2 c (i := 0) (j := 1) rfl rfl rfl rfl (by rw [hsc]; rfl) (by rw [hsc]; rfl) ?_)
    refine ea_cons ?_
    refine ee_var c (i := 1) rfl rfl rfl ?_
    refine ea_cons ?_
    refine ee_mod ?_
    refine ee_var c (i := 0) rfl rfl rfl ?_
    refine ee_var c (i := 1) rfl rfl rfl ?_
    refine ⟨_, _, rfl, rfl, h1, ?_⟩
    refine ea_nil ?_
    refine ⟨_, _, _, _, rfl, .here, (.there .here), ?_⟩
    refine sl_nil ?_
    exact ⟨_, natAbs_fmod h1, _, _, rfl, rfl, (gcd_fmod x y).trans hg, rfl⟩
  · refine isF ?_
    refine sl_cons (ss_ret ?_)
    refine ee_abs c (i := 0) rfl mb.abs ?_
    refine ee_var c (i := 0) rfl rfl rfl ?_
    refine ⟨_, rfl, ?_⟩
    have e : y = 0 := by omega
    subst e
    exact .pure ⟨by rw [← hg, Int.gcd_zero_right], rfl⟩
def W_coordinates : Spec := Pu fun ds p => ∃ (b : List V2) (v : V2), ds = [dVs b, dV v] ∧ Nf b ∧ BL 8000 b ∧ BV 100000 v ∧ p = fun d => d = .tup [.any, dV (red b v)]
theorem ok_coordinates {f : Addr} {fd : FuncData} (Fu : FunT K "coordinates" 14 [] f fd) (mb : MB mg) (mc : MC K mg) (f_added : Fn P w K mg base "added" 1 3 [.int 1] W_added) (f_added3 : Fn P w K mg base "added" 1 3 [] W_added) (f_leading : Fn P w K mg base "leading" 1 1 [] W_leading) : FnOk P w K mg base CX0 2 f fd ["basis", "vector"] (spW K 2 W_coordinates) := by
  refine fnok_mk (N := ["basis", "vector", "found", "step", "times"]) (Gs := ["leading", "added"]) (Vi := [0, 1, 2, 3, 4]) Fu ⟨rfl, rfl, rfl, by decide +kernel, rfl, by decide +kernel, by decide +kernel⟩ (by decide +kernel) rfl ?_
  rintro X F want ds R c hsc ⟨rfl, p, ⟨b, v, rfl, nf, hb, hv, rfl⟩, rfl⟩ hl hF
  show SL X F _ [some _, some _, none, none, none] _ _ _
  refine sl_cons (ss_set c (i := 2) rfl rfl ?_)
  refine ee_lst ?_
  refine ea_nil ?_
  refine ⟨Nat.le_of_ble_eq_true rfl, fun p1 => ?_⟩
  refine ⟨_, (.there (.there .here)), ?_⟩
  refine sl_cons (ss_for c (vs := [3]) ?_)
  refine ei_tup ?_
  refine ee_var c (i := 0) rfl rfl rfl ?_
  refine ⟨_, rfl, ?_⟩
  refine ⟨fun i en st => ∃ (v1 : V2) (ns : List D) (o1 o2 : Option D), en = [some (dVs b), some (dV v1), some (.ref p1), o1, o2] ∧ st = [⟨p1, true, .lst ns⟩] ∧ ns.length = i ∧ red (b.drop i) v1 = red b v ∧ BV (100000 + i * 8002) v1, ⟨v, [], none, none, rfl, rfl, rfl, rfl, hv.mono (by omega)⟩, fun _ _ _ _ _ => trivial, ?_, ?_⟩
  · rintro i d en2 st2 hd ⟨v1, ns, o1, o2, rfl, rfl, hn, hr, hv1⟩
    obtain ⟨s, hs, rfl⟩ := getMap hd
    have hsm := List.mem_of_getElem? hs
    have hlt : i < b.length := getLt hs
    have hle := nf.len
    have hbs := hb s hsm
    have hds : b.drop i = s :: b.drop (i + 1) := by
      rw [List.drop_eq_getElem_cons hlt]; congr 1; exact (List.getElem?_eq_some_iff.mp hs).2
    rw [hds] at hr
    refine eg_name c (i := 3) rfl rfl (by decide) (.there (.there (.there .here))) ?_
    refine sl_cons (ss_set c (i := 4) rfl rfl ?_)
    refine ee_fdiv ?_
    refine ee_ixT ?_
    refine ee_var c (i := 1) rfl rfl rfl ?_
    refine ee_pcall c (i := 0) f_leading (by decide) rfl ?_
    refine ea_cons ?_
    refine ee_var c (i := 3) rfl rfl rfl ?_
    refine ea_nil ?_
    refine ⟨_, ⟨s, rfl, rfl⟩, rfl, ?_⟩
    rintro _ rfl
    refine ⟨_, _, _, rfl, rfl, atLead v1, ?_⟩
    refine ee_ixT ?_
    refine ee_var c (i := 3) rfl rfl rfl ?_
    refine ee_pcall c (i := 0) f_leading (by decide) rfl ?_
    refine ea_cons ?_
    refine ee_var c (i := 3) rfl rfl rfl ?_
    refine ea_nil ?_
    refine ⟨_, ⟨s, rfl, rfl⟩, rfl, ?_⟩
    rintro _ rfl
    refine ⟨_, _, _, rfl, rfl, atLead s, ?_⟩
    refine ⟨_, _, rfl, rfl, Bt.divOk (BV.ite hbs) (nf.lead hsm) (by omega), ?_⟩
    rw [stepc_eq]
    refine ⟨_, (.there (.there (.there (.there .here)))), ?_⟩
    refine sl_cons (ss_set c (i := 1) rfl rfl ?_)
    refine ee_pcall c (i := 1) f_added3 (by decide) rfl ?_
    refine ea_cons ?_
    refine ee_var c (i := 1) rfl rfl rfl ?_
    refine ea_cons ?_
    refine ee_var c (i := 3) rfl rfl rfl ?_
    refine ea_cons ?_
    refine ee_sub ?_
    refine ee_int ?_
    refine ee_var c (i := 4) rfl rfl rfl ?_
    refine ⟨_, _, rfl, rfl, ?_⟩
    refine ea_nil ?_
    have ht : Bt (100000 + i * 8002) (0 - stepc s v1) := by rw [Int.zero_sub]; exact (Bt.stepc hv1).neg
    refine ⟨_, ⟨v1, s, _, rfl, ht.mulOk hbs.1 (by omega), ht.mulOk hbs.2 (by omega), rfl⟩, rfl, ?_⟩
    rintro _ rfl
    refine ⟨_, (.there .here), ?_⟩
    refine sl_cons (ss_expr ?_)
    refine ee_append ?_
    refine ee_var c (i := 2) rfl rfl rfl ?_
    refine ⟨_, _, rfl, .here, ?_⟩
    refine ee_var c (i := 4) rfl rfl rfl ?_
    refine ⟨_, _, .here, by rw [hn]; have := sizeLine_big; omega, ?_⟩
    refine sl_nil ?_
    exact ⟨_, _, _, _, rfl, rfl, by simp [hn], hr, hv1.add (BV.smul ht hbs) (by omega) (by omega)⟩
  · rintro en2 st2 ⟨v1, ns, o1, o2, rfl, rfl, hn, hr, hv1⟩
    rw [List.length_map] at hr
    rw [List.drop_length] at hr
    have hr : v1 = red b v := hr
    refine sl_cons (ss_ret (ee_wk ?_))
    refine ee_tup ?_
    refine ea_cons ?_
    refine ee_var c (i := 2) rfl rfl rfl ?_
    refine ea_cons ?_
    refine ee_var c (i := 1) rfl rfl rfl ?_
    refine ea_nil ?_
    refine ⟨Nat.le_of_ble_eq_true rfl, ?_⟩
    exact ⟨_, fun H v => at_wk2, .pure ⟨by rw [hr], rfl⟩⟩
def W_reduced : Spec := Pu fun ds p => ∃ (b : List V2) (v : V2), ds = [dVs b, dV v] ∧ Nf b ∧ BL 8000 b ∧ BV 100000 v ∧ p = fun d => d = dV (red b v)
theorem ok_reduced {f : Addr} {fd : FuncData} (Fu : FunT K "reduced" 15 [] f fd) (mb : MB mg) (mc : MC K mg) (f_coordinates : Fn P w K mg base "coordinates" 2 2 [] W_coordinates) : FnOk P w K mg base CX0 3 f fd ["basis", "vector"] (spW K 2 W_reduced) := by
  refine fnok_mk (N := ["basis", "vector"]) (Gs := ["coordinates"]) (Vi := [0, 1]) Fu ⟨rfl, rfl, rfl, by decide +kernel, rfl, by decide +kernel, by decide +kernel⟩ (by decide +kernel) rfl ?_
  rintro X F want ds R c hsc ⟨rfl, p, ⟨b, v, rfl, nf, hb, hv, rfl⟩, rfl⟩ hl hF
  show SL X F _ [some _, some _] _ _ _
  refine sl_cons (ss_ret ?_)
  refine ee_ixT ?_
  refine ee_pcall c (i := 0) f_coordinates (by decide) rfl ?_
  refine ea_cons ?_
  refine ee_var c (i := 0) rfl rfl rfl ?_
  refine ea_cons ?_
  refine ee_var c (i := 1) rfl rfl rfl ?_
  refine ea_nil ?_
  refine ⟨_, ⟨b, v, rfl, nf, hb, hv, rfl⟩, rfl, ?_⟩
  rintro _ rfl
  refine ee_int ?_
  refine ⟨_, _, _, rfl, rfl, rfl, ?_⟩
  exact .pure ⟨rfl, rfl⟩
def W_is_step : Spec := Pu fun ds p => ∃ (b : List V2) (v : V2), ds = [dVs b, dV v] ∧ Nf b ∧ BL 8000 b ∧ BV 100000 v ∧ p = fun d => ∃ t, d = .bl t ∧ (t = true ↔ Sp b v)
theorem ok_is_step {f : Addr} {fd : FuncData} (Fu : FunT K "is_step" 16 [] f fd) (mb : MB mg) (mc : MC K mg) (f_reduced : Fn P w K mg base "reduced" 3 2 [] W_reduced) : FnOk P w K mg base CX0 4 f fd ["basis", "vector"] (spW K 2 W_is_step) := by
  refine fnok_mk (N := ["basis", "vector"]) (Gs := ["reduced"]) (Vi := [0, 1]) Fu ⟨rfl, rfl, rfl, by decide +kernel, rfl, by decide +kernel, by decide +kernel⟩ (by decide +kernel) rfl ?_
  rintro X F want ds R c hsc ⟨rfl, p, ⟨b, v, rfl, nf, hb, hv, rfl⟩, rfl⟩ hl hF
  show SL X F _ [some _, some _] _ _ _
  refine sl_cons (ss_ret ?_)
  refine ee_eqD c ?_
  refine ee_pcall c (i := 0) f_reduced (by decide) rfl ?_
  refine ea_cons ?_
  refine ee_var c (i := 0) rfl rfl rfl ?_
  refine ea_cons ?_
  refine ee_var c (i := 1) rfl rfl rfl ?_
  refine ea_nil ?_
  refine ⟨_, ⟨b, v, rfl, nf, hb, hv, rfl⟩, rfl, ?_⟩
  rintro _ rfl
  refine ee_tup ?_
  refine ea_cons ?_
  refine ee_int ?_
  refine ea_cons ?_
  refine ee_int ?_
  refine ea_nil ?_
  refine ⟨Nat.le_of_ble_eq_true rfl, ?_⟩
  refine ⟨by first | exact pl_dV _ | exact pl_dS _ | exact pl_dVs _ | exact pl_dG _ | rfl, by first | exact pl_dV _ | exact pl_dS _ | exact pl_dVs _ | exact pl_dG _ | rfl, ?_⟩
  intro b1 hb1
  exact .pure ⟨⟨b1, rfl, hb1.trans (Iff.trans ⟨fun h => dV_inj (w := (0, 0)) h, fun h => by rw [h]; rfl⟩ (red_eq0 nf))⟩, rfl⟩
def W_inverse_of : Spec := Pu fun ds p => ∃ s : Sy, ds = [dS s] ∧ p = fun d => d = dS (inv s)
theorem ok_inverse_of {f : Addr} {fd : FuncData} (Fu : FunT K "inverse_of" 34 [] f fd) (mb : MB mg) (mc : MC K mg) (f_turned : Fn P w K mg base "turned" 1 2 [] W_turned) (f_offset : Fn P w K mg base "offset" 1 1 [] W_offset) (f_kind_after : Fn P w K mg base "kind_after" 2 2 [] W_kind_after) : FnOk P w K mg base CX0 3 f fd ["symmetry"] (spW K 1 W_inverse_of) := by
  refine fnok_mk (N := ["symmetry", "kind", "x", "y"]) (Gs := ["range", "KINDS", "turned", "offset"]) (Vi := [0, 1, 2, 3]) Fu ⟨rfl, rfl, rfl, by decide +kernel, rfl, by decide +kernel, by decide +kernel⟩ (by decide +kernel) rfl ?_
  rintro X F want ds R c hsc ⟨rfl, p, ⟨s, rfl, rfl⟩, rfl⟩ hl hF
  show SL X F _ [some _, none, none, none] _ _ _
  refine sl_cons (ss_set c (i := 1) rfl rfl ?_)
  refine ee_ixL ?_
  refine ee_lc c [("kind", 1)] (G' := ["SHIFT", "kind_after"]) (V' := [1, 0]) (by rw [hsc]; decide +kernel) (by rw [hsc]; decide +kernel) ?_
  refine ei_rng c (j := 0) rfl mb.range ?_
  refine ee_glob c (j := 1) mc.KINDS rfl ?_
  refine ⟨_, rfl, by omega, by omega, ?_⟩
  intro p1
  refine ⟨fun i st => st = [⟨p1, true, .lst (((kinds.take i).filter (fun j => kmul s.1 j = 0)).map dK)⟩], rfl, fun _ _ _ _ => trivial, ?_, ?_⟩
  · rintro i d st2 hd rfl Xp1 hX
    obtain ⟨hi, rfl⟩ := rangeGet hd
    have hk : kinds[i]? = some ⟨i, hi⟩ := kinds_get ⟨i, hi⟩
    refine eg_name hX.2 (i := 1) rfl rfl (by decide) (.there .here) ?_
    intro Xp1 hX
    refine et_eqI ?_
    refine ee_pcall hX.2 (i := 1) f_kind_after (by decide) rfl ?_
    refine ea_cons ?_
    refine ee_ixT ?_
    refine ee_var hX.2 (i := 0) rfl rfl rfl ?_
    refine ee_int ?_
    refine ⟨_, _, _, rfl, rfl, rfl, ?_⟩
    refine ea_cons ?_
    refine ee_var hX.2 (i := 1) rfl rfl rfl ?_
    refine ea_nil ?_
    refine ⟨_, ⟨s.1, ⟨i, hi⟩, rfl, rfl⟩, rfl, ?_⟩
    rintro _ rfl
    refine ee_glob hX.2 (j := 0) mc.SHIFT rfl ?_
    refine ⟨_, _, rfl, rfl, ?_⟩
    refine ⟨fun h2 => ?_, fun h2 => ?_⟩
    · refine isT ?_
      intro Xp1 hX
      refine ee_var hX.2 (i := 1) rfl rfl rfl ?_
      refine ⟨_, _, .here, by have h1 := List.length_filter_le (fun j => decide (kmul s.1 j = 0)) (kinds.take i); rw [List.length_map]; rw [List.length_take] at h1; have := sizeLine_big; omega, ?_⟩
      show _ = _
      rw [takeS hk, List.filter_append, List.map_append]
      have hkz : kmul s.1 ⟨i, hi⟩ = 0 := Fin.ext (by show (kmul s.1 ⟨i, hi⟩).val = 0; omega)
      simp only [List.filter_cons, List.filter_nil, hkz]
      rfl
    · refine isF ?_
      show _ = _
      rw [takeS hk, List.filter_append, List.map_append]
      have hkz : ¬ kmul s.1 ⟨i, hi⟩ = 0 := fun z => h2 (by rw [z]; rfl)
      simp only [List.filter_cons, List.filter_nil, hkz]
      simp
  · rintro st2 rfl
    refine ee_int ?_
    refine ⟨_, _, _, dK (kinv s.1), rfl, .here, rfl, ?_, ?_⟩
    · show atI (List.map dK (List.filter (fun j => kmul s.1 j = 0) kinds)) 0 = _
      rw [inv_filter]; rfl
    refine ⟨_, (.there .here), ?_⟩
    refine sl_cons (ss_asg (vs := [2, 3]) ?_ )
    refine ee_pcall c (i := 2) f_turned (by decide) rfl ?_
    refine ea_cons ?_
    refine ee_var c (i := 1) rfl rfl rfl ?_
    refine ea_cons ?_
    refine ee_pcall c (i := 3) f_offset (by decide) rfl ?_
    refine ea_cons ?_
    refine ee_var c (i := 0) rfl rfl rfl ?_
    refine ea_nil ?_
    refine ⟨_, ⟨_, rfl, rfl⟩, rfl, ?_⟩
    rintro _ rfl
    refine ea_nil ?_
    refine ⟨_, ⟨kinv s.1, s.2, rfl, rfl⟩, rfl, ?_⟩
    rintro _ rfl
    refine eg_tup c (n := 2) ?_ rfl
    refine egs_cons ?_
    refine eg_name c (i := 2) rfl rfl (by decide) (.there (.there .here)) ?_
    refine egs_cons ?_
    refine eg_name c (i := 3) rfl rfl (by decide) (.there (.there (.there .here))) ?_
    refine egs_nil ?_
    refine sl_cons (ss_ret ?_)
    refine ee_tup ?_
    refine ea_cons ?_
    refine ee_var c (i := 1) rfl rfl rfl ?_
    refine ea_cons ?_
    refine ee_sub ?_
    refine ee_int ?_
    refine ee_var c (i := 2) rfl rfl rfl ?_
    refine ⟨_, _, rfl, rfl, ?_⟩
    refine ea_cons ?_
    refine ee_sub ?_
    refine ee_int ?_
    refine ee_var c (i := 3) rfl rfl rfl ?_
    refine ⟨_, _, rfl, rfl, ?_⟩
    refine ea_nil ?_
    refine ⟨Nat.le_of_ble_eq_true rfl, ?_⟩
    exact .pure ⟨by rw [Int.zero_sub, Int.zero_sub]; rfl, rfl⟩
def W_repeated : Spec := Pu fun ds p => ∃ (s : Sy) (n : Nat), ds = [dS s, .int n] ∧ n ≤ 1000 ∧ p = fun d => d = dS (rep s n)
theorem ok_repeated {f : Addr} {fd : FuncData} (Fu : FunT K "repeated" 35 [] f fd) (mb : MB mg) (mc : MC K mg) (f_product_of : Fn P w K mg base "product_of" 3 2 [] W_product_of) : FnOk P w K mg base CX0 4 f fd ["symmetry", "times"] (spW K 2 W_repeated) := by
  refine fnok_mk (N := ["symmetry", "times", "found", "lap"]) (Gs := ["IDENTITY", "range", "product_of"]) (Vi := [0, 1, 2, 3]) Fu ⟨rfl, rfl, rfl, by decide +kernel, rfl, by decide +kernel, by decide +kernel⟩ (by decide +kernel) rfl ?_
  rintro X F want ds R c hsc ⟨rfl, p, ⟨s, n, rfl, hn, rfl⟩, rfl⟩ hl hF
  show SL X F _ [some _, some _, none, none] _ _ _
  refine sl_cons (ss_set c (i := 2) rfl rfl ?_)
  refine ee_glob c (j := 0) mc.IDENTITY rfl ?_
  refine ⟨_, (.there (.there .here)), ?_⟩
  refine sl_cons (ss_for c (vs := [3]) ?_)
  refine ei_rng c (j := 1) rfl mb.range ?_
  refine ee_var c (i := 1) rfl rfl rfl ?_
  refine ⟨_, rfl, by omega, by omega, ?_⟩
  refine ⟨fun i en st => ∃ o1, en = [some (dS s), some (.int n), some (dS (rep s i)), o1] ∧ st = [], ⟨none, rfl, rfl⟩, fun _ _ _ _ _ => trivial, ?_, ?_⟩
  · rintro i d en2 st2 hd ⟨o1, rfl, rfl⟩
    refine eg_name c (i := 3) rfl rfl (by decide) (.there (.there (.there .here))) ?_
    refine sl_cons (ss_set c (i := 2) rfl rfl ?_)
    refine ee_pcall c (i := 2) f_product_of (by decide) rfl ?_
    refine ea_cons ?_
    refine ee_var c (i := 2) rfl rfl rfl ?_
    refine ea_cons ?_
    refine ee_var c (i := 0) rfl rfl rfl ?_
    refine ea_nil ?_
    refine ⟨_, ⟨rep s i, s, rfl, rfl⟩, rfl, ?_⟩
    rintro _ rfl
    refine ⟨_, (.there (.there .here)), ?_⟩
    refine sl_nil ?_
    exact ⟨_, rfl, rfl⟩
  · rintro en2 st2 ⟨o1, rfl, rfl⟩
    rw [List.length_map, List.length_range]
    refine sl_cons (ss_ret ?_)
    refine ee_var c (i := 2) rfl rfl rfl ?_
    exact .pure ⟨rfl, rfl⟩
def W_power_of : Spec := Pu fun ds p => ∃ (s : Sy) (e : Int), ds = [dS s, .int e] ∧ BV 100000 s.2 ∧ Bt 100000 e ∧ p = fun d => d = dS (pw s e)
theorem ok_power_of {f : Addr} {fd : FuncData} (Fu : FunT K "power_of" 36 [] f fd) (mb : MB mg) (mc : MC K mg) (f_offset : Fn P w K mg base "offset" 1 1 [] W_offset) (f_repeated : Fn P w K mg base "repeated" 4 2 [] W_repeated) (f_added : Fn P w K mg base "added" 1 3 [.int 1] W_added) (f_added3 : Fn P w K mg base "added" 1 3 [] W_added) (f_product_of : Fn P w K mg base "product_of" 3 2 [] W_product_of) : FnOk P w K mg base CX0 5 f fd ["symmetry", "exponent"] (spW K 2 W_power_of) := by
  refine fnok_mk (N := ["symmetry", "exponent", "step", "shift"]) (Gs := ["TURNS", "repeated", "offset", "SHIFT", "added", "product_of"]) (Vi := [0, 1, 2, 3]) Fu ⟨rfl, rfl, rfl, by decide +kernel, rfl, by decide +kernel, by decide +kernel⟩ (by decide +kernel) rfl ?_
  rintro X F want ds R c hsc ⟨rfl, p, ⟨s, e, rfl, hs, he, rfl⟩, rfl⟩ hl hF
  show SL X F _ [some _, some _, none, none] _ _ _
  refine sl_cons (ss_if ?_)
  refine et_inT c ?_
  refine ee_ixT ?_
  refine ee_var c (i := 0) rfl rfl rfl ?_
  refine ee_int ?_
  refine ⟨_, _, _, rfl, rfl, rfl, ?_⟩
  refine ee_glob c (j := 0) mc.TURNS rfl ?_
  refine ⟨_, rfl, rfl, rfl, ?_⟩
  refine ⟨fun h1 => ?_, fun h1 => ?_⟩
  · refine isT ?_
    refine sl_cons (ss_ret ?_)
    refine ee_pcall c (i := 1) f_repeated (by decide) rfl ?_
    refine ea_cons ?_
    refine ee_var c (i := 0) rfl rfl rfl ?_
    refine ea_cons ?_
    refine ee_mod ?_
    refine ee_var c (i := 1) rfl rfl rfl ?_
    refine ee_int ?_
    refine ⟨_, _, rfl, rfl, by decide, ?_⟩
    refine ea_nil ?_
    have h4 := Int.fmod_nonneg_of_pos e (show (0 : Int) < 4 by decide)
    have h5 := Int.fmod_lt_of_pos e (show (0 : Int) < 4 by decide)
    refine ⟨_, ⟨s, (e.fmod 4).toNat, by rw [Int.toNat_of_nonneg h4]; rfl, by omega, rfl⟩, rfl, ?_⟩
    rintro _ rfl
    exact .pure ⟨by rw [pw, if_pos ((turns_iff _).mp h1)], rfl⟩
  · refine isF ?_
    refine sl_nil ?_
    refine sl_cons (ss_set c (i := 2) rfl rfl ?_)
    refine ee_pcall c (i := 2) f_offset (by decide) rfl ?_
    refine ea_cons ?_
    refine ee_pcall c (i := 1) f_repeated (by decide) rfl ?_
    refine ea_cons ?_
    refine ee_var c (i := 0) rfl rfl rfl ?_
    refine ea_cons ?_
    refine ee_int ?_
    refine ea_nil ?_
    refine ⟨_, ⟨s, 2, rfl, by omega, rfl⟩, rfl, ?_⟩
    rintro _ rfl
    refine ea_nil ?_
    refine ⟨_, ⟨rep s 2, rfl, rfl⟩, rfl, ?_⟩
    rintro _ rfl
    refine ⟨_, (.there (.there .here)), ?_⟩
    refine sl_cons (ss_set c (i := 3) rfl rfl ?_)
    refine ee_catT ?_
    refine ee_tup ?_
    refine ea_cons ?_
    refine ee_glob c (j := 3) mc.SHIFT rfl ?_
    refine ea_nil ?_
    refine ⟨Nat.le_of_ble_eq_true rfl, ?_⟩
    refine ee_pcall c (i := 4) f_added3 (by decide) rfl ?_
    refine ea_cons ?_
    refine ee_tup ?_
    refine ea_cons ?_
    refine ee_int ?_
    refine ea_cons ?_
    refine ee_int ?_
    refine ea_nil ?_
    refine ⟨Nat.le_of_ble_eq_true rfl, ?_⟩
    refine ea_cons ?_
    refine ee_var c (i := 2) rfl rfl rfl ?_
    refine ea_cons ?_
    refine ee_fdiv ?_
    refine ee_var c (i := 1) rfl rfl rfl ?_
    refine ee_int ?_
    refine ⟨_, _, rfl, rfl, ⟨by decide, by decide⟩, ?_⟩
    refine ea_nil ?_
    have hr : BV 100001 (rep s 2).2 := by rw [rep2]; exact hs.mul hs (by omega) (by omega)
    have he2 : Bt 100000 (e.fdiv 2) := he.fdiv
    refine ⟨_, ⟨(0, 0), (rep s 2).2, _, rfl, he2.mulOk hr.1 (by omega), he2.mulOk hr.2 (by omega), rfl⟩, rfl, ?_⟩
    rintro _ rfl
    refine ⟨_, _, rfl, rfl, Nat.le_of_ble_eq_true rfl, ?_⟩
    refine ⟨_, (.there (.there (.there .here))), ?_⟩
    refine sl_cons (ss_ret ?_)
    refine ee_ifx ?_
    refine et_eqI ?_
    refine ee_mod ?_
    refine ee_var c (i := 1) rfl rfl rfl ?_
    refine ee_int ?_
    refine ⟨_, _, rfl, rfl, by decide, ?_⟩
    refine ee_int ?_
    refine ⟨_, _, rfl, rfl, ?_⟩
    refine ⟨fun h2 => ?_, fun h2 => ?_⟩
    · refine isT ?_
      refine ee_pcall c (i := 5) f_product_of (by decide) rfl ?_
      refine ea_cons ?_
      refine ee_var c (i := 3) rfl rfl rfl ?_
      refine ea_cons ?_
      refine ee_var c (i := 0) rfl rfl rfl ?_
      refine ea_nil ?_
      refine ⟨_, ⟨(0, vadd (0, 0) (smul (e.fdiv 2) (rep s 2).2)), s, rfl, rfl⟩, rfl, ?_⟩
      rintro _ rfl
      exact .pure ⟨by rw [pw, if_neg (fun z => h1 ((turns_iff _).mpr z)), if_pos h2], rfl⟩
    · refine isF ?_
      refine ee_var c (i := 3) rfl rfl rfl ?_
      exact .pure ⟨by rw [pw, if_neg (fun z => h1 ((turns_iff _).mpr z)), if_neg h2]; rfl, rfl⟩
end G
end
section
set_option Elab.async false
set_option linter.all false
set_option maxRecDepth 100000
set_option maxHeartbeats 4000000
/-! M4: basis_of, as its loops go. -/
namespace G
def bi (s i : Nat) : Nat := s + (s + 1) * i
structure BI (s : Nat) (vs : List V2) (i : Nat) (f : V2) (l : Int) : Prop where
  f0 : f.1 = 0 → f.2 = 0
  l0 : 0 ≤ l
  sp : ∀ u, Sp [f, (0, l)] u ↔ Sp (vs.take i) u
  bx : Bt s f.1
  by' : Bt (bi s i) f.2
structure WI (s : Nat) (vs : List V2) (i : Nat) (f g : V2) (l : Int) : Prop where
  f0 : f.1 = 0 → f.2 = 0
  l0 : 0 ≤ l
  sp : ∀ u, Sp [f, g, (0, l)] u ↔ Sp (vs.take i) u
  bx : Bt s f.1
  gx : Bt s g.1
  bd : (dt f g).natAbs ≤ 2 ^ bi s i - 1
  by' : Bt (bi s i) f.2
  gy : Bt (bi s i) g.2
theorem BI.init {s : Nat} {vs : List V2} : BI s vs 0 (0, 0) 0 :=
  ⟨fun _ => rfl, Int.le_refl _, fun u => by
    rw [List.take_zero]
    refine sp_eq ?_ ?_ u
    · intro v hv; simp at hv; subst hv; exact .zero
    · intro v hv; exact absurd hv (by simp)
    , .zero, .zero⟩
theorem bi_mono {s i j : Nat} (h : i ≤ j) : bi s i ≤ bi s j := Nat.add_le_add_left (Nat.mul_le_mul_left _ h) _
theorem Bt.le {n : Nat} {i : Int} : Bt n i ↔ i.natAbs ≤ 2 ^ n - 1 := by
  have := Nat.two_pow_pos n
  unfold Bt; omega
theorem WI.init {s : Nat} {vs : List V2} {i : Nat} {f v : V2} {l : Int} (h : BI s vs i f l) (hv : vs[i]? = some v) (hb : BV s v) : WI s vs (i + 1) f v l := by
  have e1 : s ≤ bi s (i + 1) := Nat.le_add_right _ _
  have e2 : bi s (i + 1) = bi s i + (s + 1) := by unfold bi; rw [Nat.mul_add, Nat.mul_one]; omega
  refine ⟨h.f0, h.l0, fun u => ?_, h.bx, hb.1, ?_, h.by'.mono (bi_mono (by omega)), hb.2.mono e1⟩
  · rw [takeS hv]
    refine sp_eq ?_ ?_ u
    · intro w hw
      simp only [List.mem_cons, List.not_mem_nil, or_false] at hw
      have up : ∀ {x}, Sp [f, (0, l)] x → Sp (vs.take i ++ [v]) x := fun hx => ((h.sp _).mp hx).mono fun y hy => List.mem_append_left _ hy
      rcases hw with rfl | rfl | rfl
      · exact up (.mem (by simp))
      · exact .mem (by simp)
      · exact up (.mem (by simp))
    · intro w hw
      rw [List.mem_append] at hw
      rcases hw with hw | hw
      · exact ((h.sp _).mpr (.mem hw)).mono fun y hy => by simp at hy ⊢; rcases hy with rfl | rfl <;> simp
      · simp at hw; subst hw; exact .mem (by simp)
  · have h1 : Bt (s + s) (f.1 * v.2) := h.bx.mul hb.2
    have h2 : Bt (s + bi s i) (v.1 * f.2) := hb.1.mul h.by'
    have h3 : Bt (bi s (i + 1)) (dt f v) := h1.sub h2 (by unfold bi at *; omega) (by omega)
    exact Bt.le.mp h3
theorem WI.step {s : Nat} {vs : List V2} {i : Nat} {f g : V2} {l : Int} (h : WI s vs i f g l) (hg : g.1 ≠ 0) : WI s vs i g (euc f g) l := by
  obtain ⟨h1, h2⟩ := euc_bound f g _ hg h.bd (Bt.le.mp h.gy)
  refine ⟨fun z => absurd z hg, h.l0, fun u => (sp_euc f g l u).symm.trans (h.sp u), h.gx, ?_, h1, h.gy, Bt.le.mpr h2⟩
  have := euc_lt f g hg
  have := h.gx
  unfold Bt at *
  omega
theorem WI.fin {s : Nat} {vs : List V2} {i : Nat} {f g : V2} {l : Int} (h : WI s vs i f g l) (hg : g.1 = 0) : BI s vs i f (Int.gcd l g.2 : Nat) := by
  refine ⟨h.f0, by omega, fun u => ?_, h.bx, h.by'⟩
  have e : g = (0, g.2) := Prod.ext hg rfl
  rw [← sp_gcd, ← e]
  exact h.sp u
/-- what basis_of gives -/
structure NB (s : Nat) (b vs : List V2) : Prop where
  nf : Nf b
  sp : ∀ u, Sp b u ↔ Sp vs u
  bl : ∀ v ∈ b, Bt s v.1 ∧ Bt (2 * s + 2) v.2
  b1 : b.length ≤ 1 → BL s b
theorem nb_of {s : Nat} {b vs : List V2} (n : Nf b) (h : ∀ u, Sp b u ↔ Sp vs u) (hb : BL s vs) : NB s b vs := by
  have hS := nf_bound (S := 2 ^ s - 1) n h (fun v hv => ⟨Bt.le.mp (hb v hv).1, Bt.le.mp (hb v hv).2⟩)
  have h2 : 2 * (2 ^ s - 1) * (2 ^ s - 1) + (2 ^ s - 1) < 2 ^ (2 * s + 2) := by
    have e : 2 ^ (2 * s + 2) = 4 * (2 ^ s * 2 ^ s) := by rw [Nat.pow_add, Nat.two_mul, Nat.pow_add]; omega
    have hp := Nat.two_pow_pos s
    generalize 2 ^ s = X at *
    have h3 : (X - 1) * (X - 1) ≤ X * X := Nat.mul_le_mul (by omega) (by omega)
    have h4 : X * 1 ≤ X * X := Nat.mul_le_mul_left _ hp
    rw [e, Nat.mul_assoc]
    omega
  refine ⟨n, h, fun v hv => ?_, fun hl v hv => ?_⟩
  · obtain ⟨a, b, _⟩ := hS v hv
    exact ⟨Bt.le.mpr a, by unfold Bt; omega⟩
  · obtain ⟨a, b, c⟩ := hS v hv
    exact ⟨Bt.le.mpr a, Bt.le.mpr (c hl)⟩
theorem NB.bL {s : Nat} {b vs : List V2} (h : NB s b vs) : BL (2 * s + 2) b := fun v hv => ⟨(h.bl v hv).1.mono (by omega), (h.bl v hv).2⟩
theorem BI.nb {s : Nat} {vs : List V2} {f : V2} {l : Int} (h : BI s vs vs.length f l) (hb : BL s vs) : NB s (nfOf f l) vs := by
  obtain ⟨n, e⟩ := nfOf_ok f l h.f0 h.l0
  refine nb_of n (fun u => (e u).trans ?_) hb
  rw [h.sp, List.take_length]
end G
end
section
set_option Elab.async false
set_option linter.all false
set_option maxRecDepth 100000
set_option maxHeartbeats 4000000
namespace G
open PySem L2
variable {P : Program} {w : World} {K : PySem.W.Frag} {mg : Str → Option Value} {base : Heap}
theorem nfA {f : V2} {l : Int} (h2 : f.1 < 0) (h5 : l = 0) : D.tup [D.tup [.int (0 - f.1), .int (0 - f.2)]] = dVs (nfOf f l) := by
  have hz : ¬ f.1 = 0 := by omega
  simp [nfOf, dVs, dV, *]
theorem nfB {f : V2} {l : Int} (h2 : f.1 < 0) (h5 : ¬ l = 0) : D.tup [D.tup [.int (0 - f.1), .int ((0 - f.2).fmod l)], D.tup [.int 0, .int l]] = dVs (nfOf f l) := by
  have hz : ¬ f.1 = 0 := by omega
  simp [nfOf, dVs, dV, *]
theorem nfC {f : V2} {l : Int} (h2 : ¬ f.1 < 0) (h3 : f.1 = 0) (h5 : 0 < l) : D.tup [D.tup [.int 0, .int l]] = dVs (nfOf f l) := by
  simp [nfOf, dVs, dV, *]
theorem nfD {f : V2} {l : Int} (h2 : ¬ f.1 < 0) (h3 : f.1 = 0) (h5 : ¬ 0 < l) : D.tup [] = dVs (nfOf f l) := by
  simp [nfOf, dVs, dV, *]
theorem nfE {f : V2} {l : Int} (h2 : ¬ f.1 < 0) (h3 : ¬ f.1 = 0) (h5 : l = 0) : D.tup [dV f] = dVs (nfOf f l) := by
  simp [nfOf, dVs, dV, *]
theorem nfF {f : V2} {l : Int} (h2 : ¬ f.1 < 0) (h3 : ¬ f.1 = 0) (h5 : ¬ l = 0) : D.tup [D.tup [.int f.1, .int (f.2.fmod l)], D.tup [.int 0, .int l]] = dVs (nfOf f l) := by
  simp [nfOf, dVs, dV, *]
def W_basis_of : Spec := fun want ds R => ∃ (s : Nat) (vs : List V2), s ≤ 1000 ∧ vs.length ≤ 64 ∧ BL s vs ∧ ((want = [] ∧ ds = [dVs vs]) ∨ ∃ q, want = [⟨q, false, .lst (vs.map dV)⟩] ∧ ds = [.ref q]) ∧ R = fun d st => (∃ b, d = dVs b ∧ NB s b vs) ∧ st = []
theorem ok_basis_of {f : Addr} {fd : FuncData} (Fu : FunT K "basis_of" 12 [] f fd) (mb : MB mg) (mc : MC K mg) (f_divisor : Fn P w K mg base "divisor" 1 2 [] W_divisor) : FnOk P w K mg base CX0 2 f fd ["vectors"] (spW K 1 W_basis_of) := by
  refine fnok_mk (N := ["vectors", "first", "low", "x", "y", "times"]) (Gs := ["divisor"]) (Vi := [0, 1, 2, 3, 4, 5]) Fu ⟨rfl, rfl, rfl, by decide +kernel, rfl, by decide +kernel, by decide +kernel⟩ (by decide +kernel) rfl ?_
  rintro X F want ds R c hsc ⟨s, vs, hs, hlen, hb, (⟨rfl, rfl⟩ | ⟨q, rfl, rfl⟩), rfl⟩ hl hF
  · show SL X F _ [some _, none, none, none, none, none] _ _ _
    refine sl_cons (ss_asg (vs := [1, 2]) ?_ (hw := swF (by rfl)))
    refine ee_tup ?_
    refine ea_cons ?_
    refine ee_tup ?_
    refine ea_cons ?_
    refine ee_int ?_
    refine ea_cons ?_
    refine ee_int ?_
    refine ea_nil ?_
    refine ⟨Nat.le_of_ble_eq_true rfl, ?_⟩
    refine ea_cons ?_
    refine ee_int ?_
    refine ea_nil ?_
    refine ⟨Nat.le_of_ble_eq_true rfl, ?_⟩
    refine eg_tup c (n := 2) ?_ rfl
    refine egs_cons ?_
    refine eg_name c (i := 1) rfl rfl (by decide) (.there .here) ?_
    refine egs_cons ?_
    refine eg_name c (i := 2) rfl rfl (by decide) (.there (.there .here)) ?_
    refine egs_nil ?_
    refine sl_cons (ss_for c (vs := [3, 4]) ?_)
    refine ei_tup ?_
    refine ee_var c (i := 0) rfl rfl rfl ?_
    refine ⟨_, rfl, ?_⟩
    refine ⟨fun i en st => ∃ f l o1 o2 o3, en = [some (dVs vs), some (dV f), some (.int l), o1, o2, o3] ∧ st = [] ∧ BI s vs i f l, ⟨(0, 0), 0, none, none, none, rfl, rfl, .init⟩, fun _ _ _ _ _ => trivial, ?_, ?_⟩
    · rintro i d en2 st2 hd ⟨f, l, o1, o2, o3, rfl, rfl, hB⟩
      obtain ⟨v, hv, rfl⟩ := getMap hd
      have hbv := hb v (List.mem_of_getElem? hv)
      have hi := getLt hv
      have hbi : bi s (i + 1) ≤ 70000 := Nat.le_trans (bi_mono (show i + 1 ≤ 64 by omega)) (by unfold bi; omega)
      refine eg_tup c (n := 2) ?_ rfl
      refine egs_cons ?_
      refine eg_name c (i := 3) rfl rfl (by decide) (.there (.there (.there .here))) ?_
      refine egs_cons ?_
      refine eg_name c (i := 4) rfl rfl (by decide) (.there (.there (.there (.there .here)))) ?_
      refine egs_nil ?_
      refine sl_cons (ss_while c (fun m en st => ∃ f g o3, en = [some (dVs vs), some (dV f), some (.int l), some (.int g.1), some (.int g.2), o3] ∧ st = [] ∧ m = g.1.natAbs ∧ WI s vs (i + 1) f g l) ⟨_, f, v, o3, rfl, rfl, rfl, .init hB hv hbv⟩ ?_)
      rintro m en1 st1 ⟨f, g, o3, rfl, rfl, rfl, hW⟩
      refine et_neI ?_
      refine ee_var c (i := 3) rfl rfl rfl ?_
      refine ee_int ?_
      refine ⟨_, _, rfl, rfl, ?_⟩
      refine ⟨fun h1 => ?_, fun h1 => ?_⟩
      · refine isT ?_
        refine sl_cons (ss_set c (i := 5) rfl rfl ?_)
        refine ee_fdiv ?_
        refine ee_ixT ?_
        refine ee_var c (i := 1) rfl rfl rfl ?_
        refine ee_int ?_
        refine ⟨_, _, _, rfl, rfl, rfl, ?_⟩
        refine ee_var c (i := 3) rfl rfl rfl ?_
        refine ⟨_, _, rfl, rfl, hW.gx.divOk h1 (by omega), ?_⟩
        refine ⟨_, (.there (.there (.there (.there (.there .here))))), ?_⟩
        refine sl_cons (ss_asg (vs := [1, 3, 4]) ?_ (hw := swN (by rfl)))
        refine ee_tup ?_
        refine ea_cons ?_
        refine ee_tup ?_
        refine ea_cons ?_
        refine ee_var c (i := 3) rfl rfl rfl ?_
        refine ea_cons ?_
        refine ee_var c (i := 4) rfl rfl rfl ?_
        refine ea_nil ?_
        refine ⟨Nat.le_of_ble_eq_true rfl, ?_⟩
        refine ea_cons ?_
        refine ee_tup ?_
        refine ea_cons ?_
        refine ee_sub ?_
        refine ee_ixT ?_
        refine ee_var c (i := 1) rfl rfl rfl ?_
        refine ee_int ?_
        refine ⟨_, _, _, rfl, rfl, rfl, ?_⟩
        refine ee_mulO ?_
        refine ee_var c (i := 5) rfl rfl rfl ?_
        refine ee_var c (i := 3) rfl rfl rfl ?_
        refine ⟨_, _, rfl, rfl, (hW.bx.fdiv).mulOk hW.gx (by omega), ?_⟩
        refine ⟨_, _, rfl, rfl, ?_⟩
        refine ea_cons ?_
        refine ee_sub ?_
        refine ee_ixT ?_
        refine ee_var c (i := 1) rfl rfl rfl ?_
        refine ee_int ?_
        refine ⟨_, _, _, rfl, rfl, rfl, ?_⟩
        refine ee_mulO ?_
        refine ee_var c (i := 5) rfl rfl rfl ?_
        refine ee_var c (i := 4) rfl rfl rfl ?_
        refine ⟨_, _, rfl, rfl, (hW.bx.fdiv).mulOk hW.gy (by omega), ?_⟩
        refine ⟨_, _, rfl, rfl, ?_⟩
        refine ea_nil ?_
        refine ⟨Nat.le_of_ble_eq_true rfl, ?_⟩
        refine ea_nil ?_
        refine ⟨Nat.le_of_ble_eq_true rfl, ?_⟩
        refine eg_tup c (n := 2) ?_ rfl
        refine egs_cons ?_
        refine eg_name c (i := 1) rfl rfl (by decide) (.there .here) ?_
        refine egs_cons ?_
        refine eg_tup c (n := 2) ?_ rfl
        refine egs_cons ?_
        refine eg_name c (i := 3) rfl rfl (by decide) (.there (.there (.there .here))) ?_
        refine egs_cons ?_
        refine eg_name c (i := 4) rfl rfl (by decide) (.there (.there (.there (.there .here)))) ?_
        refine egs_nil ?_
        refine egs_nil ?_
        refine sl_nil ?_
        exact ⟨_, euc_lt f g h1, g, euc f g, _, rfl, rfl, rfl, hW.step h1⟩
      · refine isF ?_
        refine sl_cons (ss_set c (i := 2) rfl rfl ?_)
        refine ee_pcall c (i := 0) f_divisor (by decide) rfl ?_
        refine ea_cons ?_
        refine ee_var c (i := 2) rfl rfl rfl ?_
        refine ea_cons ?_
        refine ee_var c (i := 4) rfl rfl rfl ?_
        refine ea_nil ?_
        refine ⟨_, ⟨l, g.2, rfl, rfl⟩, rfl, ?_⟩
        rintro _ rfl
        refine ⟨_, (.there (.there .here)), ?_⟩
        refine sl_nil ?_
        have hx0 : g.1 = 0 := by omega
        exact ⟨f, _, _, _, _, rfl, rfl, hW.fin hx0⟩
    · rintro en2 st2 ⟨f, l, o1, o2, o3, rfl, rfl, hB⟩
      rw [List.length_map] at hB
      have hN := hB.nb hb
      refine sl_cons (ss_if ?_)
      refine et_lt ?_
      refine ee_ixT ?_
      refine ee_var c (i := 1) rfl rfl rfl ?_
      refine ee_int ?_
      refine ⟨_, _, _, rfl, rfl, rfl, ?_⟩
      refine ee_int ?_
      refine ⟨_, _, rfl, rfl, ?_⟩
      refine ⟨fun h2 => ?_, fun h2 => ?_⟩
      · refine isT ?_
        refine sl_cons (ss_set c (i := 1) rfl rfl ?_)
        refine ee_tup ?_
        refine ea_cons ?_
        refine ee_sub ?_
        refine ee_int ?_
        refine ee_ixT ?_
        refine ee_var c (i := 1) rfl rfl rfl ?_
        refine ee_int ?_
        refine ⟨_, _, _, rfl, rfl, rfl, ?_⟩
        refine ⟨_, _, rfl, rfl, ?_⟩
        refine ea_cons ?_
        refine ee_sub ?_
        refine ee_int ?_
        refine ee_ixT ?_
        refine ee_var c (i := 1) rfl rfl rfl ?_
        refine ee_int ?_
        refine ⟨_, _, _, rfl, rfl, rfl, ?_⟩
        refine ⟨_, _, rfl, rfl, ?_⟩
        refine ea_nil ?_
        refine ⟨Nat.le_of_ble_eq_true rfl, ?_⟩
        refine ⟨_, (.there .here), ?_⟩
        refine sl_nil ?_
        refine sl_cons (ss_if ?_)
        refine et_eqI ?_
        refine ee_ixT ?_
        refine ee_var c (i := 1) rfl rfl rfl ?_
        refine ee_int ?_
        refine ⟨_, _, _, rfl, rfl, rfl, ?_⟩
        refine ee_int ?_
        refine ⟨_, _, rfl, rfl, ?_⟩
        refine ⟨fun h3 => ?_, fun h3 => ?_⟩
        · refine isT ?_
          refine sl_cons (ss_ret ?_)
          refine ee_ifx ?_
          refine et_gt ?_
          refine ee_var c (i := 2) rfl rfl rfl ?_
          refine ee_int ?_
          refine ⟨_, _, rfl, rfl, ?_⟩
          refine ⟨fun h4 => ?_, fun h4 => ?_⟩
          · refine isT ?_
            refine ee_tup ?_
            refine ea_cons ?_
            refine ee_tup ?_
            refine ea_cons ?_
            refine ee_int ?_
            refine ea_cons ?_
            refine ee_var c (i := 2) rfl rfl rfl ?_
            refine ea_nil ?_
            refine ⟨Nat.le_of_ble_eq_true rfl, ?_⟩
            refine ea_nil ?_
            refine ⟨Nat.le_of_ble_eq_true rfl, ?_⟩
            exact .pure ⟨⟨nfOf f l, by first | exact nfA ‹_› ‹_› | exact nfB ‹_› ‹_› | exact nfC ‹_› ‹_› ‹_› | exact nfD ‹_› ‹_› ‹_› | exact nfE ‹_› ‹_› ‹_› | exact nfF ‹_› ‹_› ‹_› | (exfalso; omega), hN⟩, rfl⟩
          · refine isF ?_
            refine ee_tup ?_
            refine ea_nil ?_
            refine ⟨Nat.le_of_ble_eq_true rfl, ?_⟩
            exact .pure ⟨⟨nfOf f l, by first | exact nfA ‹_› ‹_› | exact nfB ‹_› ‹_› | exact nfC ‹_› ‹_› ‹_› | exact nfD ‹_› ‹_› ‹_› | exact nfE ‹_› ‹_› ‹_› | exact nfF ‹_› ‹_› ‹_› | (exfalso; omega), hN⟩, rfl⟩
        · refine isF ?_
          refine sl_nil ?_
          refine sl_cons (ss_ret ?_)
          refine ee_ifx ?_
          refine et_eqI ?_
          refine ee_var c (i := 2) rfl rfl rfl ?_
          refine ee_int ?_
          refine ⟨_, _, rfl, rfl, ?_⟩
          refine ⟨fun h5 => ?_, fun h5 => ?_⟩
          · refine isT ?_
            refine ee_tup ?_
            refine ea_cons ?_
            refine ee_var c (i := 1) rfl rfl rfl ?_
            refine ea_nil ?_
            refine ⟨Nat.le_of_ble_eq_true rfl, ?_⟩
            exact .pure ⟨⟨nfOf f l, by first | exact nfA ‹_› ‹_› | exact nfB ‹_› ‹_› | exact nfC ‹_› ‹_› ‹_› | exact nfD ‹_› ‹_› ‹_› | exact nfE ‹_› ‹_› ‹_› | exact nfF ‹_› ‹_› ‹_› | (exfalso; omega), hN⟩, rfl⟩
          · refine isF ?_
            refine ee_tup ?_
            refine ea_cons ?_
            refine ee_tup ?_
            refine ea_cons ?_
            refine ee_ixT ?_
            refine ee_var c (i := 1) rfl rfl rfl ?_
            refine ee_int ?_
            refine ⟨_, _, _, rfl, rfl, rfl, ?_⟩
            refine ea_cons ?_
            refine ee_mod ?_
            refine ee_ixT ?_
            refine ee_var c (i := 1) rfl rfl rfl ?_
            refine ee_int ?_
            refine ⟨_, _, _, rfl, rfl, rfl, ?_⟩
            refine ee_var c (i := 2) rfl rfl rfl ?_
            refine ⟨_, _, rfl, rfl, by omega, ?_⟩
            refine ea_nil ?_
            refine ⟨Nat.le_of_ble_eq_true rfl, ?_⟩
            refine ea_cons ?_
            refine ee_tup ?_
            refine ea_cons ?_
            refine ee_int ?_
            refine ea_cons ?_
            refine ee_var c (i := 2) rfl rfl rfl ?_
            refine ea_nil ?_
            refine ⟨Nat.le_of_ble_eq_true rfl, ?_⟩
            refine ea_nil ?_
            refine ⟨Nat.le_of_ble_eq_true rfl, ?_⟩
            exact .pure ⟨⟨nfOf f l, by first | exact nfA ‹_› ‹_› | exact nfB ‹_› ‹_› | exact nfC ‹_› ‹_› ‹_› | exact nfD ‹_› ‹_› ‹_› | exact nfE ‹_› ‹_› ‹_› | exact nfF ‹_› ‹_› ‹_› | (exfalso; omega), hN⟩, rfl⟩
      · refine isF ?_
        refine sl_nil ?_
        refine sl_cons (ss_if ?_)
        refine et_eqI ?_
        refine ee_ixT ?_
        refine ee_var c (i := 1) rfl rfl rfl ?_
        refine ee_int ?_
        refine ⟨_, _, _, rfl, rfl, rfl, ?_⟩
        refine ee_int ?_
        refine ⟨_, _, rfl, rfl, ?_⟩
        refine ⟨fun h6 => ?_, fun h6 => ?_⟩
        · refine isT ?_
          refine sl_cons (ss_ret ?_)
          refine ee_ifx ?_
          refine et_gt ?_
          refine ee_var c (i := 2) rfl rfl rfl ?_
          refine ee_int ?_
          refine ⟨_, _, rfl, rfl, ?_⟩
          refine ⟨fun h7 => ?_, fun h7 => ?_⟩
          · refine isT ?_
            refine ee_tup ?_
            refine ea_cons ?_
            refine ee_tup ?_
            refine ea_cons ?_
            refine ee_int ?_
            refine ea_cons ?_
            refine ee_var c (i := 2) rfl rfl rfl ?_
            refine ea_nil ?_
            refine ⟨Nat.le_of_ble_eq_true rfl, ?_⟩
            refine ea_nil ?_
            refine ⟨Nat.le_of_ble_eq_true rfl, ?_⟩
            exact .pure ⟨⟨nfOf f l, by first | exact nfA ‹_› ‹_› | exact nfB ‹_› ‹_› | exact nfC ‹_› ‹_› ‹_› | exact nfD ‹_› ‹_› ‹_› | exact nfE ‹_› ‹_› ‹_› | exact nfF ‹_› ‹_› ‹_› | (exfalso; omega), hN⟩, rfl⟩
          · refine isF ?_
            refine ee_tup ?_
            refine ea_nil ?_
            refine ⟨Nat.le_of_ble_eq_true rfl, ?_⟩
            exact .pure ⟨⟨nfOf f l, by first | exact nfA ‹_› ‹_› | exact nfB ‹_› ‹_› | exact nfC ‹_› ‹_› ‹_› | exact nfD ‹_› ‹_› ‹_› | exact nfE ‹_› ‹_› ‹_› | exact nfF ‹_› ‹_› ‹_› | (exfalso; omega), hN⟩, rfl⟩
        · refine isF ?_
          refine sl_nil ?_
          refine sl_cons (ss_ret ?_)
          refine ee_ifx ?_
          refine et_eqI ?_
          refine ee_var c (i := 2) rfl rfl rfl ?_
          refine ee_int ?_
          refine ⟨_, _, rfl, rfl, ?_⟩
          refine ⟨fun h8 => ?_, fun h8 => ?_⟩
          · refine isT ?_
            refine ee_tup ?_
            refine ea_cons ?_
            refine ee_var c (i := 1) rfl rfl rfl ?_
            refine ea_nil ?_
            refine ⟨Nat.le_of_ble_eq_true rfl, ?_⟩
            exact .pure ⟨⟨nfOf f l, by first | exact nfA ‹_› ‹_› | exact nfB ‹_› ‹_› | exact nfC ‹_› ‹_› ‹_› | exact nfD ‹_› ‹_› ‹_› | exact nfE ‹_› ‹_› ‹_› | exact nfF ‹_› ‹_› ‹_› | (exfalso; omega), hN⟩, rfl⟩
          · refine isF ?_
            refine ee_tup ?_
            refine ea_cons ?_
            refine ee_tup ?_
            refine ea_cons ?_
            refine ee_ixT ?_
            refine ee_var c (i := 1) rfl rfl rfl ?_
            refine ee_int ?_
            refine ⟨_, _, _, rfl, rfl, rfl, ?_⟩
            refine ea_cons ?_
            refine ee_mod ?_
            refine ee_ixT ?_
            refine ee_var c (i := 1) rfl rfl rfl ?_
            refine ee_int ?_
            refine ⟨_, _, _, rfl, rfl, rfl, ?_⟩
            refine ee_var c (i := 2) rfl rfl rfl ?_
            refine ⟨_, _, rfl, rfl, by omega, ?_⟩
            refine ea_nil ?_
            refine ⟨Nat.le_of_ble_eq_true rfl, ?_⟩
            refine ea_cons ?_
            refine ee_tup ?_
            refine ea_cons ?_
            refine ee_int ?_
            refine ea_cons ?_
            refine ee_var c (i := 2) rfl rfl rfl ?_
            refine ea_nil ?_
            refine ⟨Nat.le_of_ble_eq_true rfl, ?_⟩
            refine ea_nil ?_
            refine ⟨Nat.le_of_ble_eq_true rfl, ?_⟩
            exact .pure ⟨⟨nfOf f l, by first | exact nfA ‹_› ‹_› | exact nfB ‹_› ‹_› | exact nfC ‹_› ‹_› ‹_› | exact nfD ‹_› ‹_› ‹_› | exact nfE ‹_› ‹_› ‹_› | exact nfF ‹_› ‹_› ‹_› | (exfalso; omega), hN⟩, rfl⟩
  · show SL X F _ [some _, none, none, none, none, none] _ _ _
    refine sl_cons (ss_asg (vs := [1, 2]) ?_ (hw := swF (by rfl)))
    refine ee_tup ?_
    refine ea_cons ?_
    refine ee_tup ?_
    refine ea_cons ?_
    refine ee_int ?_
    refine ea_cons ?_
    refine ee_int ?_
    refine ea_nil ?_
    refine ⟨Nat.le_of_ble_eq_true rfl, ?_⟩
    refine ea_cons ?_
    refine ee_int ?_
    refine ea_nil ?_
    refine ⟨Nat.le_of_ble_eq_true rfl, ?_⟩
    refine eg_tup c (n := 2) ?_ rfl
    refine egs_cons ?_
    refine eg_name c (i := 1) rfl rfl (by decide) (.there .here) ?_
    refine egs_cons ?_
    refine eg_name c (i := 2) rfl rfl (by decide) (.there (.there .here)) ?_
    refine egs_nil ?_
    refine sl_cons (ss_for c (vs := [3, 4]) ?_)
    refine ei_lst ?_
    refine ee_var c (i := 0) rfl rfl rfl ?_
    refine ⟨_, _, rfl, .here, ?_⟩
    refine ⟨fun i en st => ∃ f l o1 o2 o3, en = [some (.ref q), some (dV f), some (.int l), o1, o2, o3] ∧ st = [⟨q, false, .lst (vs.map dV)⟩] ∧ BI s vs i f l, ⟨(0, 0), 0, none, none, none, rfl, rfl, .init⟩, fun _ _ _ _ ⟨_, _, _, _, _, _, e, _⟩ => by rw [e]; exact .here, ?_, ?_⟩
    · rintro i d en2 st2 hd ⟨f, l, o1, o2, o3, rfl, rfl, hB⟩
      obtain ⟨v, hv, rfl⟩ := getMap hd
      have hbv := hb v (List.mem_of_getElem? hv)
      have hi := getLt hv
      have hbi : bi s (i + 1) ≤ 70000 := Nat.le_trans (bi_mono (show i + 1 ≤ 64 by omega)) (by unfold bi; omega)
      refine eg_tup c (n := 2) ?_ rfl
      refine egs_cons ?_
      refine eg_name c (i := 3) rfl rfl (by decide) (.there (.there (.there .here))) ?_
      refine egs_cons ?_
      refine eg_name c (i := 4) rfl rfl (by decide) (.there (.there (.there (.there .here)))) ?_
      refine egs_nil ?_
      refine sl_cons (ss_while c (fun m en st => ∃ f g o3, en = [some (.ref q), some (dV f), some (.int l), some (.int g.1), some (.int g.2), o3] ∧ st = [⟨q, false, .lst (vs.map dV)⟩] ∧ m = g.1.natAbs ∧ WI s vs (i + 1) f g l) ⟨_, f, v, o3, rfl, rfl, rfl, .init hB hv hbv⟩ ?_)
      rintro m en1 st1 ⟨f, g, o3, rfl, rfl, rfl, hW⟩
      refine et_neI ?_
      refine ee_var c (i := 3) rfl rfl rfl ?_
      refine ee_int ?_
      refine ⟨_, _, rfl, rfl, ?_⟩
      refine ⟨fun h1 => ?_, fun h1 => ?_⟩
      · refine isT ?_
        refine sl_cons (ss_set c (i := 5) rfl rfl ?_)
        refine ee_fdiv ?_
        refine ee_ixT ?_
        refine ee_var c (i := 1) rfl rfl rfl ?_
        refine ee_int ?_
        refine ⟨_, _, _, rfl, rfl, rfl, ?_⟩
        refine ee_var c (i := 3) rfl rfl rfl ?_
        refine ⟨_, _, rfl, rfl, hW.gx.divOk h1 (by omega), ?_⟩
        refine ⟨_, (.there (.there (.there (.there (.there .here))))), ?_⟩
        refine sl_cons (ss_asg (vs := [1, 3, 4]) ?_ (hw := swN (by rfl)))
        refine ee_tup ?_
        refine ea_cons ?_
        refine ee_tup ?_
        refine ea_cons ?_
        refine ee_var c (i := 3) rfl rfl rfl ?_
        refine ea_cons ?_
        refine ee_var c (i := 4) rfl rfl rfl ?_
        refine ea_nil ?_
        refine ⟨Nat.le_of_ble_eq_true rfl, ?_⟩
        refine ea_cons ?_
        refine ee_tup ?_
        refine ea_cons ?_
        refine ee_sub ?_
        refine ee_ixT ?_
        refine ee_var c (i := 1) rfl rfl rfl ?_
        refine ee_int ?_
        refine ⟨_, _, _, rfl, rfl, rfl, ?_⟩
        refine ee_mulO ?_
        refine ee_var c (i := 5) rfl rfl rfl ?_
        refine ee_var c (i := 3) rfl rfl rfl ?_
        refine ⟨_, _, rfl, rfl, (hW.bx.fdiv).mulOk hW.gx (by omega), ?_⟩
        refine ⟨_, _, rfl, rfl, ?_⟩
        refine ea_cons ?_
        refine ee_sub ?_
        refine ee_ixT ?_
        refine ee_var c (i := 1) rfl rfl rfl ?_
        refine ee_int ?_
        refine ⟨_, _, _, rfl, rfl, rfl, ?_⟩
        refine ee_mulO ?_
        refine ee_var c (i := 5) rfl rfl rfl ?_
        refine ee_var c (i := 4) rfl rfl rfl ?_
        refine ⟨_, _, rfl, rfl, (hW.bx.fdiv).mulOk hW.gy (by omega), ?_⟩
        refine ⟨_, _, rfl, rfl, ?_⟩
        refine ea_nil ?_
        refine ⟨Nat.le_of_ble_eq_true rfl, ?_⟩
        refine ea_nil ?_
        refine ⟨Nat.le_of_ble_eq_true rfl, ?_⟩
        refine eg_tup c (n := 2) ?_ rfl
        refine egs_cons ?_
        refine eg_name c (i := 1) rfl rfl (by decide) (.there .here) ?_
        refine egs_cons ?_
        refine eg_tup c (n := 2) ?_ rfl
        refine egs_cons ?_
        refine eg_name c (i := 3) rfl rfl (by decide) (.there (.there (.there .here))) ?_
        refine egs_cons ?_
        refine eg_name c (i := 4) rfl rfl (by decide) (.there (.there (.there (.there .here)))) ?_
        refine egs_nil ?_
        refine egs_nil ?_
        refine sl_nil ?_
        exact ⟨_, euc_lt f g h1, g, euc f g, _, rfl, rfl, rfl, hW.step h1⟩
      · refine isF ?_
        refine sl_cons (ss_set c (i := 2) rfl rfl ?_)
        refine ee_pcall c (i := 0) f_divisor (by decide) rfl ?_
        refine ea_cons ?_
        refine ee_var c (i := 2) rfl rfl rfl ?_
        refine ea_cons ?_
        refine ee_var c (i := 4) rfl rfl rfl ?_
        refine ea_nil ?_
        refine ⟨_, ⟨l, g.2, rfl, rfl⟩, rfl, ?_⟩
        rintro _ rfl
        refine ⟨_, (.there (.there .here)), ?_⟩
        refine sl_nil ?_
        have hx0 : g.1 = 0 := by omega
        exact ⟨f, _, _, _, _, rfl, rfl, hW.fin hx0⟩
    · rintro en2 st2 ⟨f, l, o1, o2, o3, rfl, rfl, hB⟩
      rw [List.length_map] at hB
      have hN := hB.nb hb
      refine sl_cons (ss_if ?_)
      refine et_lt ?_
      refine ee_ixT ?_
      refine ee_var c (i := 1) rfl rfl rfl ?_
      refine ee_int ?_
      refine ⟨_, _, _, rfl, rfl, rfl, ?_⟩
      refine ee_int ?_
      refine ⟨_, _, rfl, rfl, ?_⟩
      refine ⟨fun h2 => ?_, fun h2 => ?_⟩
      · refine isT ?_
        refine sl_cons (ss_set c (i := 1) rfl rfl ?_)
        refine ee_tup ?_
        refine ea_cons ?_
        refine ee_sub ?_
        refine ee_int ?_
        refine ee_ixT ?_
        refine ee_var c (i := 1) rfl rfl rfl ?_
        refine ee_int ?_
        refine ⟨_, _, _, rfl, rfl, rfl, ?_⟩
        refine ⟨_, _, rfl, rfl, ?_⟩
        refine ea_cons ?_
        refine ee_sub ?_
        refine ee_int ?_
        refine ee_ixT ?_
        refine ee_var c (i := 1) rfl rfl rfl ?_
        refine ee_int ?_
        refine ⟨_, _, _, rfl, rfl, rfl, ?_⟩
        refine ⟨_, _, rfl, rfl, ?_⟩
        refine ea_nil ?_
        refine ⟨Nat.le_of_ble_eq_true rfl, ?_⟩
        refine ⟨_, (.there .here), ?_⟩
        refine sl_nil ?_
        refine sl_cons (ss_if ?_)
        refine et_eqI ?_
        refine ee_ixT ?_
        refine ee_var c (i := 1) rfl rfl rfl ?_
        refine ee_int ?_
        refine ⟨_, _, _, rfl, rfl, rfl, ?_⟩
        refine ee_int ?_
        refine ⟨_, _, rfl, rfl, ?_⟩
        refine ⟨fun h3 => ?_, fun h3 => ?_⟩
        · refine isT ?_
          refine sl_cons (ss_ret ?_)
          refine ee_ifx ?_
          refine et_gt ?_
          refine ee_var c (i := 2) rfl rfl rfl ?_
          refine ee_int ?_
          refine ⟨_, _, rfl, rfl, ?_⟩
          refine ⟨fun h4 => ?_, fun h4 => ?_⟩
          · refine isT ?_
            refine ee_tup ?_
            refine ea_cons ?_
            refine ee_tup ?_
            refine ea_cons ?_
            refine ee_int ?_
            refine ea_cons ?_
            refine ee_var c (i := 2) rfl rfl rfl ?_
            refine ea_nil ?_
            refine ⟨Nat.le_of_ble_eq_true rfl, ?_⟩
            refine ea_nil ?_
            refine ⟨Nat.le_of_ble_eq_true rfl, ?_⟩
            exact .pure ⟨⟨nfOf f l, by first | exact nfA ‹_› ‹_› | exact nfB ‹_› ‹_› | exact nfC ‹_› ‹_› ‹_› | exact nfD ‹_› ‹_› ‹_› | exact nfE ‹_› ‹_› ‹_› | exact nfF ‹_› ‹_› ‹_› | (exfalso; omega), hN⟩, rfl⟩
          · refine isF ?_
            refine ee_tup ?_
            refine ea_nil ?_
            refine ⟨Nat.le_of_ble_eq_true rfl, ?_⟩
            exact .pure ⟨⟨nfOf f l, by first | exact nfA ‹_› ‹_› | exact nfB ‹_› ‹_› | exact nfC ‹_› ‹_› ‹_› | exact nfD ‹_› ‹_› ‹_› | exact nfE ‹_› ‹_› ‹_› | exact nfF ‹_› ‹_› ‹_› | (exfalso; omega), hN⟩, rfl⟩
        · refine isF ?_
          refine sl_nil ?_
          refine sl_cons (ss_ret ?_)
          refine ee_ifx ?_
          refine et_eqI ?_
          refine ee_var c (i := 2) rfl rfl rfl ?_
          refine ee_int ?_
          refine ⟨_, _, rfl, rfl, ?_⟩
          refine ⟨fun h5 => ?_, fun h5 => ?_⟩
          · refine isT ?_
            refine ee_tup ?_
            refine ea_cons ?_
            refine ee_var c (i := 1) rfl rfl rfl ?_
            refine ea_nil ?_
            refine ⟨Nat.le_of_ble_eq_true rfl, ?_⟩
            exact .pure ⟨⟨nfOf f l, by first | exact nfA ‹_› ‹_› | exact nfB ‹_› ‹_› | exact nfC ‹_› ‹_› ‹_› | exact nfD ‹_› ‹_› ‹_› | exact nfE ‹_› ‹_› ‹_› | exact nfF ‹_› ‹_› ‹_› | (exfalso; omega), hN⟩, rfl⟩
          · refine isF ?_
            refine ee_tup ?_
            refine ea_cons ?_
            refine ee_tup ?_
            refine ea_cons ?_
            refine ee_ixT ?_
            refine ee_var c (i := 1) rfl rfl rfl ?_
            refine ee_int ?_
            refine ⟨_, _, _, rfl, rfl, rfl, ?_⟩
            refine ea_cons ?_
            refine ee_mod ?_
            refine ee_ixT ?_
            refine ee_var c (i := 1) rfl rfl rfl ?_
            refine ee_int ?_
            refine ⟨_, _, _, rfl, rfl, rfl, ?_⟩
            refine ee_var c (i := 2) rfl rfl rfl ?_
            refine ⟨_, _, rfl, rfl, by omega, ?_⟩
            refine ea_nil ?_
            refine ⟨Nat.le_of_ble_eq_true rfl, ?_⟩
            refine ea_cons ?_
            refine ee_tup ?_
            refine ea_cons ?_
            refine ee_int ?_
            refine ea_cons ?_
            refine ee_var c (i := 2) rfl rfl rfl ?_
            refine ea_nil ?_
            refine ⟨Nat.le_of_ble_eq_true rfl, ?_⟩
            refine ea_nil ?_
            refine ⟨Nat.le_of_ble_eq_true rfl, ?_⟩
            exact .pure ⟨⟨nfOf f l, by first | exact nfA ‹_› ‹_› | exact nfB ‹_› ‹_› | exact nfC ‹_› ‹_› ‹_› | exact nfD ‹_› ‹_› ‹_› | exact nfE ‹_› ‹_› ‹_› | exact nfF ‹_› ‹_› ‹_› | (exfalso; omega), hN⟩, rfl⟩
      · refine isF ?_
        refine sl_nil ?_
        refine sl_cons (ss_if ?_)
        refine et_eqI ?_
        refine ee_ixT ?_
        refine ee_var c (i := 1) rfl rfl rfl ?_
        refine ee_int ?_
        refine ⟨_, _, _, rfl, rfl, rfl, ?_⟩
        refine ee_int ?_
        refine ⟨_, _, rfl, rfl, ?_⟩
        refine ⟨fun h6 => ?_, fun h6 => ?_⟩
        · refine isT ?_
          refine sl_cons (ss_ret ?_)
          refine ee_ifx ?_
          refine et_gt ?_
          refine ee_var c (i := 2) rfl rfl rfl ?_
          refine ee_int ?_
          refine ⟨_, _, rfl, rfl, ?_⟩
          refine ⟨fun h7 => ?_, fun h7 => ?_⟩
          · refine isT ?_
            refine ee_tup ?_
            refine ea_cons ?_
            refine ee_tup ?_
            refine ea_cons ?_
            refine ee_int ?_
            refine ea_cons ?_
            refine ee_var c (i := 2) rfl rfl rfl ?_
            refine ea_nil ?_
            refine ⟨Nat.le_of_ble_eq_true rfl, ?_⟩
            refine ea_nil ?_
            refine ⟨Nat.le_of_ble_eq_true rfl, ?_⟩
            exact .pure ⟨⟨nfOf f l, by first | exact nfA ‹_› ‹_› | exact nfB ‹_› ‹_› | exact nfC ‹_› ‹_› ‹_› | exact nfD ‹_› ‹_› ‹_› | exact nfE ‹_› ‹_› ‹_› | exact nfF ‹_› ‹_› ‹_› | (exfalso; omega), hN⟩, rfl⟩
          · refine isF ?_
            refine ee_tup ?_
            refine ea_nil ?_
            refine ⟨Nat.le_of_ble_eq_true rfl, ?_⟩
            exact .pure ⟨⟨nfOf f l, by first | exact nfA ‹_› ‹_› | exact nfB ‹_› ‹_› | exact nfC ‹_› ‹_› ‹_› | exact nfD ‹_› ‹_› ‹_› | exact nfE ‹_› ‹_› ‹_› | exact nfF ‹_› ‹_› ‹_› | (exfalso; omega), hN⟩, rfl⟩
        · refine isF ?_
          refine sl_nil ?_
          refine sl_cons (ss_ret ?_)
          refine ee_ifx ?_
          refine et_eqI ?_
          refine ee_var c (i := 2) rfl rfl rfl ?_
          refine ee_int ?_
          refine ⟨_, _, rfl, rfl, ?_⟩
          refine ⟨fun h8 => ?_, fun h8 => ?_⟩
          · refine isT ?_
            refine ee_tup ?_
            refine ea_cons ?_
            refine ee_var c (i := 1) rfl rfl rfl ?_
            refine ea_nil ?_
            refine ⟨Nat.le_of_ble_eq_true rfl, ?_⟩
            exact .pure ⟨⟨nfOf f l, by first | exact nfA ‹_› ‹_› | exact nfB ‹_› ‹_› | exact nfC ‹_› ‹_› ‹_› | exact nfD ‹_› ‹_› ‹_› | exact nfE ‹_› ‹_› ‹_› | exact nfF ‹_› ‹_› ‹_› | (exfalso; omega), hN⟩, rfl⟩
          · refine isF ?_
            refine ee_tup ?_
            refine ea_cons ?_
            refine ee_tup ?_
            refine ea_cons ?_
            refine ee_ixT ?_
            refine ee_var c (i := 1) rfl rfl rfl ?_
            refine ee_int ?_
            refine ⟨_, _, _, rfl, rfl, rfl, ?_⟩
            refine ea_cons ?_
            refine ee_mod ?_
            refine ee_ixT ?_
            refine ee_var c (i := 1) rfl rfl rfl ?_
            refine ee_int ?_
            refine ⟨_, _, _, rfl, rfl, rfl, ?_⟩
            refine ee_var c (i := 2) rfl rfl rfl ?_
            refine ⟨_, _, rfl, rfl, by omega, ?_⟩
            refine ea_nil ?_
            refine ⟨Nat.le_of_ble_eq_true rfl, ?_⟩
            refine ea_cons ?_
            refine ee_tup ?_
            refine ea_cons ?_
            refine ee_int ?_
            refine ea_cons ?_
            refine ee_var c (i := 2) rfl rfl rfl ?_
            refine ea_nil ?_
            refine ⟨Nat.le_of_ble_eq_true rfl, ?_⟩
            refine ea_nil ?_
            refine ⟨Nat.le_of_ble_eq_true rfl, ?_⟩
            exact .pure ⟨⟨nfOf f l, by first | exact nfA ‹_› ‹_› | exact nfB ‹_› ‹_› | exact nfC ‹_› ‹_› ‹_› | exact nfD ‹_› ‹_› ‹_› | exact nfE ‹_› ‹_› ‹_› | exact nfF ‹_› ‹_› ‹_› | (exfalso; omega), hN⟩, rfl⟩
end G
end
section
set_option Elab.async false
set_option linter.all false
set_option maxRecDepth 100000
set_option maxHeartbeats 4000000
/-! M5: samples, Schreier's lemma, descriptions. -/
namespace G
/-- the sample of a kind -/
def smp (ss : List Sy) (k : Fin 8) : Sy := (ss.find? (fun s => s.1 == k)).getD one
theorem smp_of {ss : List Sy} {k : Fin 8} (h : ∃ s ∈ ss, s.1 = k) : smp ss k ∈ ss ∧ (smp ss k).1 = k := by
  obtain ⟨s, hs, e⟩ := h
  unfold smp
  cases hf : ss.find? (fun s => s.1 == k) with
  | none =>
    have := List.find?_eq_none.mp hf s hs
    simp [e] at this
  | some t =>
    have h1 := List.mem_of_find?_eq_some hf
    have h2 := List.find?_some hf
    exact ⟨h1, by simpa using h2⟩
theorem nd_uniq {ss : List Sy} (nd : (ss.map Prod.fst).Nodup) {s t : Sy} (hs : s ∈ ss) (ht : t ∈ ss) (e : s.1 = t.1) : s = t := by
  induction ss with
  | nil => cases hs
  | cons a r ih =>
    rw [List.map_cons, List.nodup_cons] at nd
    rcases List.mem_cons.mp hs with rfl | hs' <;> rcases List.mem_cons.mp ht with rfl | ht'
    · rfl
    · exact absurd (List.mem_map.mpr ⟨t, ht', e.symm⟩) nd.1
    · exact absurd (List.mem_map.mpr ⟨s, hs', e⟩) nd.1
    · exact ih nd.2 hs' ht'
theorem smp_eq {ss : List Sy} (nd : (ss.map Prod.fst).Nodup) {s : Sy} (hs : s ∈ ss) : smp ss s.1 = s := by
  obtain ⟨h1, h2⟩ := smp_of ⟨s, hs, rfl⟩
  exact nd_uniq nd h1 hs h2
theorem nodup_lt : ∀ (n : Nat) (l : List Nat), l.Nodup → (∀ x ∈ l, x < n) → l.length ≤ n
  | 0, l, _, h => by
    cases l with
    | nil => exact Nat.le_refl _
    | cons a r => exact absurd (h a List.mem_cons_self) (Nat.not_lt_zero _)
  | n + 1, l, nd, h => by
    have h1 := nodup_lt n (l.erase n) (nd.erase n) fun x hx => by
      have h2 := (List.Nodup.mem_erase_iff nd).mp hx
      have := h x h2.2
      have := h2.1
      omega
    have h3 := List.length_erase (a := n) (l := l)
    split at h3 <;> omega
theorem fin_le (l : List (Fin 8)) (hl : l.Nodup) : l.length ≤ 8 := by
  have := nodup_lt 8 (l.map Fin.val) (List.pairwise_map.mpr (hl.imp fun h e => h (Fin.ext e))) fun x hx => by
    obtain ⟨k, _, rfl⟩ := List.mem_map.mp hx
    exact k.isLt
  rwa [List.length_map] at this
/-! ### the search -/
structure SM (n : Nat) (gs ss : List Sy) : Prop where
  nd : (ss.map Prod.fst).Nodup
  hd : ∃ r, ss = one :: r
  mem : ∀ s ∈ ss, InG gs s
  cl : ∀ s ∈ ss, ∀ g ∈ gs, ∃ t ∈ ss, t.1 = kmul s.1 g.1
  bd : ∀ s ∈ ss, Ab (ss.length * 2 ^ n) s.2
structure SJ (n : Nat) (gs ss ws : List Sy) (h : Option Sy) (j : Nat) : Prop where
  nd : (ss.map Prod.fst).Nodup
  hd : ∃ r, ss = one :: r
  mem : ∀ s ∈ ss, InG gs s
  sub : ∀ s ∈ ws, s ∈ ss
  cl : ∀ s ∈ ss, s ∈ ws ∨ h = some s ∨ ∀ g ∈ gs, ∃ t ∈ ss, t.1 = kmul s.1 g.1
  hh : ∀ s, h = some s → s ∈ ss ∧ ∀ g ∈ gs.take j, ∃ t ∈ ss, t.1 = kmul s.1 g.1
  bd : ∀ s ∈ ss, Ab (ss.length * 2 ^ n) s.2
theorem SJ.init {n : Nat} {gs : List Sy} : SJ n gs [one] [one] none 0 :=
  ⟨by simp, ⟨[], rfl⟩, fun s hs => by simp at hs; subst hs; exact .one, fun s hs => hs, fun s hs => .inl hs, fun s e => (nomatch e), fun s hs => by simp at hs; subst hs; exact ⟨Nat.zero_le _, Nat.zero_le _⟩⟩
theorem SJ.len {n : Nat} {gs ss ws : List Sy} {h : Option Sy} {j : Nat} (S : SJ n gs ss ws h j) : ss.length ≤ 8 := by
  have := fin_le _ S.nd
  rwa [List.length_map] at this
theorem SJ.pop {n : Nat} {gs ss ws : List Sy} {h : Sy} (S : SJ n gs ss (h :: ws) none 0) : SJ n gs ss ws (some h) 0 :=
  ⟨S.nd, S.hd, S.mem, fun s hs => S.sub s (List.mem_cons_of_mem _ hs), fun s hs => by
    rcases S.cl s hs with z | z | z
    · rcases List.mem_cons.mp z with rfl | z
      · exact .inr (.inl rfl)
      · exact .inl z
    · cases z
    · exact .inr (.inr z), fun s e => by cases e; exact ⟨S.sub h List.mem_cons_self, fun g hg => by rw [List.take_zero] at hg; cases hg⟩, S.bd⟩
theorem SJ.old {n : Nat} {gs ss ws : List Sy} {h g : Sy} {j : Nat} (S : SJ n gs ss ws (some h) j) (hg : gs[j]? = some g) (ho : ∃ t ∈ ss, t.1 = kmul h.1 g.1) : SJ n gs ss ws (some h) (j + 1) :=
  ⟨S.nd, S.hd, S.mem, S.sub, S.cl, fun s e => by
    obtain ⟨h1, h2⟩ := S.hh s e
    refine ⟨h1, fun x hx => ?_⟩
    rw [takeS hg, List.mem_append] at hx
    rcases hx with hx | hx
    · exact h2 x hx
    · simp at hx; subst hx; cases e; exact ho, S.bd⟩
theorem Ab.img {S T : Nat} {s : Sy} {p : V2} (h : Ab S s.2) (g : Ab T p) : Ab (S + T) (G.img s p) := by
  obtain ⟨h1, h2⟩ := h
  obtain ⟨g1, g2⟩ := g
  rcases lin_abs s.1 p with ⟨a, b⟩ | ⟨a, b⟩
  · constructor
    · show ((lin s.1 p).1 + s.2.1).natAbs ≤ _; omega
    · show ((lin s.1 p).2 + s.2.2).natAbs ≤ _; omega
  · constructor
    · show ((lin s.1 p).1 + s.2.1).natAbs ≤ _; omega
    · show ((lin s.1 p).2 + s.2.2).natAbs ≤ _; omega
theorem Ab.mono {S T : Nat} {v : V2} (h : Ab S v) (g : S ≤ T) : Ab T v := ⟨Nat.le_trans h.1 g, Nat.le_trans h.2 g⟩
theorem BV.ab {n : Nat} {v : V2} (h : BV n v) : Ab (2 ^ n) v := ⟨Nat.le_of_lt h.1, Nat.le_of_lt h.2⟩
theorem Ab.bv {n : Nat} {v : V2} (h : Ab (8 * 2 ^ n) v) : BV (n + 4) v := by
  have e : 2 ^ (n + 4) = 16 * 2 ^ n := by rw [Nat.pow_add]; omega
  have := Nat.two_pow_pos n
  obtain ⟨h1, h2⟩ := h
  constructor
  · unfold Bt; omega
  · unfold Bt; omega
theorem SJ.new {n : Nat} {gs ss ws : List Sy} {h g : Sy} {j : Nat} (S : SJ n gs ss ws (some h) j) (hg : gs[j]? = some g) (hb : BV n g.2) (ho : ∀ t ∈ ss, t.1 ≠ kmul h.1 g.1) : SJ n gs (ss ++ [mul h g]) (ws ++ [mul h g]) (some h) (j + 1) := by
  obtain ⟨hm, hp⟩ := S.hh h rfl
  have hgm := List.mem_of_getElem? hg
  have up : ∀ {k : Fin 8}, (∃ t ∈ ss, t.1 = k) → ∃ t ∈ ss ++ [mul h g], t.1 = k := fun ⟨t, a, b⟩ => ⟨t, List.mem_append_left _ a, b⟩
  refine ⟨?_, ?_, fun s hs => ?_, fun s hs => ?_, fun s hs => ?_, fun s e => ?_, fun s hs => ?_⟩
  · rw [List.map_append, List.nodup_append]
    refine ⟨S.nd, by simp, fun a ha b hb e => ?_⟩
    simp at hb
    subst hb
    obtain ⟨t, ht, e2⟩ := List.mem_map.mp ha
    exact ho t ht (e2.trans e)
  · obtain ⟨r, e⟩ := S.hd
    exact ⟨r ++ [mul h g], by rw [e]; rfl⟩
  · rcases List.mem_append.mp hs with hs | hs
    · exact S.mem s hs
    · simp at hs; subst hs; exact (S.mem h hm).mul hgm
  · rcases List.mem_append.mp hs with hs | hs
    · exact List.mem_append_left _ (S.sub s hs)
    · exact List.mem_append_right _ hs
  · rcases List.mem_append.mp hs with hs | hs
    · rcases S.cl s hs with z | z | z
      · exact .inl (List.mem_append_left _ z)
      · exact .inr (.inl z)
      · exact .inr (.inr fun x hx => up (z x hx))
    · exact .inl (List.mem_append_right _ hs)
  · cases e
    refine ⟨List.mem_append_left _ hm, fun x hx => ?_⟩
    rw [takeS hg, List.mem_append] at hx
    rcases hx with hx | hx
    · exact up (hp x hx)
    · simp at hx; subst hx; exact ⟨mul h x, by simp, rfl⟩
  · have el : (ss ++ [mul h g]).length * 2 ^ n = ss.length * 2 ^ n + 2 ^ n := by rw [List.length_append, Nat.add_mul]; simp
    rw [el]
    rcases List.mem_append.mp hs with hs | hs
    · exact (S.bd s hs).mono (Nat.le_add_right _ _)
    · simp at hs; subst hs
      rw [Nat.add_comm]
      exact Ab.img hb.ab (S.bd h hm)
theorem SJ.next {n : Nat} {gs ss ws : List Sy} {h : Sy} (S : SJ n gs ss ws (some h) gs.length) : SJ n gs ss ws none 0 :=
  ⟨S.nd, S.hd, S.mem, S.sub, fun s hs => by
    rcases S.cl s hs with z | z | z
    · exact .inl z
    · refine .inr (.inr ?_)
      have := (S.hh s z).2
      rwa [List.take_length] at this
    · exact .inr (.inr z), fun s e => (nomatch e), S.bd⟩
theorem SJ.done {n : Nat} {gs ss : List Sy} (S : SJ n gs ss [] none 0) : SM n gs ss :=
  ⟨S.nd, S.hd, S.mem, fun s hs => by
    rcases S.cl s hs with z | z | z
    · cases z
    · cases z
    · exact z, S.bd⟩
theorem SM.len {n : Nat} {gs ss : List Sy} (S : SM n gs ss) : ss.length ≤ 8 := by
  have := fin_le _ S.nd
  rwa [List.length_map] at this
theorem SM.bv {n : Nat} {gs ss : List Sy} (S : SM n gs ss) {s : Sy} (hs : s ∈ ss) : BV (n + 4) s.2 :=
  Ab.bv ((S.bd s hs).mono (Nat.mul_le_mul_right _ S.len))
/-! ### Schreier -/
def sft (ss : List Sy) (s g : Sy) : Sy := mul (mul s g) (inv (smp ss (kmul s.1 g.1)))
def shifts (gs ss : List Sy) : List Sy := ss.flatMap fun s => gs.map fun g => sft ss s g
theorem mem_shifts {gs ss : List Sy} {x : Sy} : x ∈ shifts gs ss ↔ ∃ s ∈ ss, ∃ g ∈ gs, x = sft ss s g := by
  unfold shifts
  rw [List.mem_flatMap]
  constructor
  · rintro ⟨s, hs, h⟩
    obtain ⟨g, hg, e⟩ := List.mem_map.mp h
    exact ⟨s, hs, g, hg, e.symm⟩
  · rintro ⟨s, hs, g, hg, e⟩
    exact ⟨s, hs, List.mem_map.mpr ⟨g, hg, e.symm⟩⟩
/-- what Schreier's lemma needs of the samples -/
structure SC (gs ss : List Sy) : Prop where
  nd : (ss.map Prod.fst).Nodup
  hd : one ∈ ss
  mem : ∀ s ∈ ss, InG gs s
  cl : ∀ s ∈ ss, ∀ g ∈ gs, ∃ t ∈ ss, t.1 = kmul s.1 g.1
theorem SM.sc {n : Nat} {gs ss : List Sy} (S : SM n gs ss) : SC gs ss := ⟨S.nd, by obtain ⟨r, e⟩ := S.hd; rw [e]; simp, S.mem, S.cl⟩
section
variable {gs ss : List Sy}
theorem SC.sft (S : SC gs ss) {s g : Sy} (hs : s ∈ ss) (hg : g ∈ gs) : (G.sft ss s g).1 = 0 ∧ InG gs (G.sft ss s g) ∧ G.mul (G.sft ss s g) (smp ss (kmul s.1 g.1)) = G.mul s g ∧ smp ss (kmul s.1 g.1) ∈ ss := by
  obtain ⟨h1, h2⟩ := smp_of (S.cl s hs g hg)
  refine ⟨?_, ?_, ?_, h1⟩
  · show kmul (kmul s.1 g.1) (kinv (smp ss (kmul s.1 g.1)).1) = 0
    rw [h2, kmul_inv]
  · exact ((S.mem s hs).mul hg).mul' (S.mem _ h1).inv'
  · unfold G.sft
    rw [G.mul_assoc, inv_mul, G.mul_one]
def offs (gs ss : List Sy) : List V2 := (shifts gs ss).map Prod.snd
theorem SC.off (S : SC gs ss) {s g : Sy} (hs : s ∈ ss) (hg : g ∈ gs) : ∃ v ∈ offs gs ss, G.sft ss s g = (0, v) := by
  refine ⟨(G.sft ss s g).2, List.mem_map.mpr ⟨_, mem_shifts.mpr ⟨s, hs, g, hg, rfl⟩, rfl⟩, ?_⟩
  exact Prod.ext (S.sft hs hg).1 rfl
theorem mul_shifts (l v : V2) : G.mul (0, l) (0, v) = (0, vadd l v) := by
  rw [shift_mul]
/-- the group by samples -/
theorem SC.split (S : SC gs ss) {a : Sy} (h : InG gs a) : ∃ s ∈ ss, ∃ l, Sp (offs gs ss) l ∧ a = G.mul (0, l) s := by
  induction h with
  | one => exact ⟨one, S.hd, (0, 0), .zero, (G.one_mul _).symm⟩
  | @mul a g _ hg ih =>
    obtain ⟨s, hs, l, hl, rfl⟩ := ih
    obtain ⟨_, _, e, h1⟩ := S.sft hs hg
    obtain ⟨v, hv, e2⟩ := S.off hs hg
    refine ⟨_, h1, vadd l v, hl.add' (.mem hv), ?_⟩
    rw [G.mul_assoc, ← e, e2, ← G.mul_assoc, mul_shifts]
  | @inv a g _ hg ih =>
    obtain ⟨s', hs', l, hl, rfl⟩ := ih
    obtain ⟨s1, h1, e1⟩ := S.cl s' hs' g hg
    obtain ⟨s2, h2, e2⟩ := S.cl s1 h1 g hg
    obtain ⟨s3, h3, e3⟩ := S.cl s2 h2 g hg
    have e4 : kmul s3.1 g.1 = s'.1 := by rw [e3, e2, e1, kmul4]
    obtain ⟨_, _, e, _⟩ := S.sft h3 hg
    obtain ⟨v, hv, e5⟩ := S.off h3 hg
    rw [e4, smp_eq S.nd hs', e5] at e
    refine ⟨s3, h3, vadd l (vneg v), hl.add' (Sp.neg (.mem hv)), ?_⟩
    have e6 : s' = G.mul (0, vneg v) (G.mul s3 g) := by
      rw [← e, ← G.mul_assoc, mul_shifts]
      have : vadd (vneg v) v = (0, 0) := by refine v2_ext ?_ ?_ <;> simp only [vadd, vneg] <;> omega
      rw [this]; exact (G.one_mul _).symm
    conv => lhs; rw [e6]
    rw [G.mul_assoc, G.mul_assoc, G.mul_assoc, mul_inv, G.mul_one, ← G.mul_assoc, mul_shifts]
theorem SC.low (S : SC gs ss) {l : V2} (h : Sp (offs gs ss) l) : InG gs (0, l) := by
  refine Sp.ind (p := fun l => InG gs (0, l)) .one ?_ ?_ ?_ h
  · intro u v hu hv; rw [← mul_shifts]; exact hu.mul' hv
  · intro u hu; rw [← inv_shift]; exact hu.inv'
  · intro v hv
    obtain ⟨x, hx, e⟩ := List.mem_map.mp hv
    obtain ⟨s, hs, g, hg, e2⟩ := mem_shifts.mp hx
    obtain ⟨h1, h2, _⟩ := S.sft hs hg
    rw [e2] at e
    have : G.sft ss s g = (0, v) := Prod.ext h1 e
    rwa [this] at h2
theorem SC.lat (S : SC gs ss) {l : V2} : InG gs (0, l) ↔ Sp (offs gs ss) l := by
  refine ⟨fun h => ?_, S.low⟩
  obtain ⟨s, hs, u, hu, e⟩ := S.split h
  have ek : s.1 = 0 := by
    have := congrArg Prod.fst e
    rw [mul_shift] at this
    exact this.symm
  have := nd_uniq S.nd hs S.hd ek
  subst this
  rw [G.mul_one] at e
  have : l = u := congrArg Prod.snd e
  rwa [this]
/-- the group, by kinds and lattice -/
theorem SC.iff (S : SC gs ss) {a : Sy} : InG gs a ↔ ∃ s ∈ ss, s.1 = a.1 ∧ Sp (offs gs ss) (vsub a.2 s.2) := by
  constructor
  · intro h
    obtain ⟨s, hs, l, hl, rfl⟩ := S.split h
    rw [mul_shift]
    refine ⟨s, hs, rfl, ?_⟩
    have e : vsub (vadd (lin s.1 l) s.2) s.2 = lin s.1 l := by refine v2_ext ?_ ?_ <;> simp only [vadd, vsub] <;> omega
    show Sp _ (vsub (vadd (lin s.1 l) s.2) s.2)
    rw [e]
    rw [← S.lat]
    have hi := ((S.mem s hs).inv'.mul' (S.low hl)).mul' (S.mem s hs)
    have e2 : G.mul (G.mul (G.inv s) (0, l)) s = (0, lin s.1 l) := by
      rw [G.mul_assoc, mul_shift]
      refine Prod.ext (inv_kmul _) ?_
      show vadd (lin s.1 (vneg (lin (kinv s.1) s.2))) (vadd (lin s.1 l) s.2) = lin s.1 l
      rw [lin_neg, lin_inv']
      refine v2_ext ?_ ?_ <;> simp only [vadd, vneg] <;> omega
    rwa [e2] at hi
  · rintro ⟨s, hs, e, h⟩
    have := (S.mem s hs).mul' (S.low h)
    rw [shift_mul] at this
    have e2 : (s.1, vadd s.2 (vsub a.2 s.2)) = a := Prod.ext e (by refine v2_ext ?_ ?_ <;> simp only [vadd, vsub] <;> omega)
    rwa [e2] at this
end
/-! ### descriptions -/
def redS (b : List V2) (s : Sy) : Sy := (s.1, red b s.2)
structure IsDesc (gs : List Sy) (b : List V2) (ms : List Sy) : Prop where
  nf : Nf b
  mem : ∀ g, InG gs g ↔ redS b g ∈ ms
  rd : ∀ m ∈ ms, redS b m = m
  srt : (ms.map Prod.fst).Pairwise (fun a b => a.val < b.val)
  hd : ∃ r, ms = one :: r
theorem IsDesc.ing {gs : List Sy} {b : List V2} {ms : List Sy} (h : IsDesc gs b ms) {m : Sy} (hm : m ∈ ms) : InG gs m := (h.mem m).mpr (by rw [h.rd m hm]; exact hm)
theorem IsDesc.nd {gs : List Sy} {b : List V2} {ms : List Sy} (h : IsDesc gs b ms) : (ms.map Prod.fst).Nodup := h.srt.imp fun hl e => by rw [e] at hl; exact Nat.lt_irrefl _ hl
theorem IsDesc.len {gs : List Sy} {b : List V2} {ms : List Sy} (h : IsDesc gs b ms) : ms.length ≤ 8 := by
  have := fin_le _ h.nd
  rwa [List.length_map] at this
theorem IsDesc.lat {gs : List Sy} {b : List V2} {ms : List Sy} (h : IsDesc gs b ms) {v : V2} : InG gs (0, v) ↔ Sp b v := by
  have ho : one ∈ ms := by obtain ⟨r, e⟩ := h.hd; rw [e]; simp
  rw [h.mem, ← red_eq0 h.nf]
  constructor
  · intro hm
    have := nd_uniq h.nd hm ho rfl
    exact congrArg Prod.snd this
  · intro e
    show (0, red b v) ∈ ms
    rw [e]; exact ho
theorem perm_map {α β : Type} {f : α → β} : ∀ {zs : List β} {xs : List α}, (∀ z ∈ zs, ∃ x ∈ xs, f x = z) → ∃ ys : List α, zs = ys.map f ∧ ∀ y ∈ ys, y ∈ xs
  | [], _, _ => ⟨[], rfl, fun y hy => by cases hy⟩
  | z :: zs, xs, h => by
    obtain ⟨x, hx, e⟩ := h z List.mem_cons_self
    obtain ⟨ys, e2, hy⟩ := perm_map (zs := zs) (xs := xs) fun z hz => h z (List.mem_cons_of_mem _ hz)
    refine ⟨x :: ys, by rw [e2, List.map_cons, e], fun y hy' => ?_⟩
    rcases List.mem_cons.mp hy' with rfl | hy'
    · exact hx
    · exact hy y hy'
def lS (s : Sy) : List Int := [(s.1.val : Nat), s.2.1, s.2.2]
theorem dS_tI (s : Sy) : dS s = tI (lS s) := rfl
theorem map_dS_tI (ss : List Sy) : ss.map dS = (ss.map lS).map tI := by rw [List.map_map]; rfl
theorem desc_of {gs ss : List Sy} {b : List V2} (S : SC gs ss) (nf : Nf b) (sp : ∀ u, Sp b u ↔ Sp (offs gs ss) u) {nss : List (List Int)} (hp : nss.Perm ((ss.map (redS b)).map lS)) (hs : nss.Pairwise lle) :
    ∃ ms, nss = ms.map lS ∧ IsDesc gs b ms ∧ ∀ m ∈ ms, m ∈ ss.map (redS b) := by
  obtain ⟨ms, e, hm⟩ := perm_map (f := lS) (zs := nss) (xs := ss.map (redS b)) fun z hz => by
    have := (hp.mem_iff).mp hz
    obtain ⟨x, hx, e⟩ := List.mem_map.mp this
    exact ⟨x, hx, e⟩
  subst e
  have linj : ∀ s t : Sy, lS s = lS t → s = t := fun s t e => by
    simp only [lS, List.cons.injEq, and_true] at e
    exact Prod.ext (Fin.ext (by omega)) (Prod.ext e.2.1 e.2.2)
  have hall : ∀ x ∈ ss.map (redS b), x ∈ ms := fun x hx => by
    have := (hp.mem_iff).mpr (List.mem_map.mpr ⟨x, hx, rfl⟩)
    obtain ⟨y, hy, e⟩ := List.mem_map.mp this
    exact linj _ _ e ▸ hy
  have ndk : (ms.map Prod.fst).Nodup := by
    have p2 := hp.map (fun l => l.headD 0)
    rw [List.map_map, List.map_map] at p2
    have n2 : (List.map ((fun l => List.headD l 0) ∘ lS) (ss.map (redS b))).Nodup := by
      rw [List.map_map]
      have : ((fun l => List.headD l 0) ∘ lS) ∘ redS b = (fun k : Fin 8 => ((k.val : Nat) : Int)) ∘ Prod.fst := rfl
      rw [this, ← List.map_map]
      refine List.pairwise_map.mpr (S.nd.imp fun h e => h (Fin.ext (by omega)))
    have n3 := (p2.nodup_iff).mpr n2
    have : ((fun l => List.headD l 0) ∘ lS) = (fun k : Fin 8 => ((k.val : Nat) : Int)) ∘ Prod.fst := rfl
    rw [this, ← List.map_map] at n3
    exact (List.pairwise_map.mp n3).imp fun h e => h (by rw [e])
  have srt : (ms.map Prod.fst).Pairwise (fun a b => a.val < b.val) := by
    have p1 := List.pairwise_map.mp hs
    have p2 := List.pairwise_map.mp ndk
    refine List.pairwise_map.mpr ((p1.and p2).imp fun {a b} ⟨h1, h2⟩ => ?_)
    have h3 : ((a.1.val : Nat) : Int) < (b.1.val : Nat) ∨ ((a.1.val : Nat) : Int) = (b.1.val : Nat) := by
      simp only [lS, lle] at h1
      rcases h1 with z | ⟨z, _⟩
      · exact .inl z
      · exact .inr z
    rcases h3 with z | z
    · omega
    · exact absurd (Fin.ext (by omega)) h2
  have ho : one ∈ ms := hall one (List.mem_map.mpr ⟨one, S.hd, Prod.ext rfl (red_zero nf)⟩)
  refine ⟨ms, rfl, ⟨nf, fun g => ?_, fun m hm' => ?_, srt, ?_⟩, hm⟩
  · rw [S.iff]
    constructor
    · rintro ⟨s, hs', e, hl⟩
      refine hall _ (List.mem_map.mpr ⟨s, hs', ?_⟩)
      refine Prod.ext e ?_
      show red b s.2 = red b g.2
      exact ((red_iff nf).mpr ((sp _).mpr hl)).symm
    · intro h
      obtain ⟨s, hs', e⟩ := List.mem_map.mp (hm _ h)
      refine ⟨s, hs', (congrArg Prod.fst e : (redS b s).1 = (redS b g).1), (sp _).mp ((red_iff nf).mp ?_)⟩
      exact (congrArg Prod.snd e : (redS b s).2 = (redS b g).2).symm
  · obtain ⟨s, hs', e⟩ := List.mem_map.mp (hm _ hm')
    rw [← e]
    exact Prod.ext rfl (red_red nf _)
  · cases ms with
    | nil => cases ho
    | cons m r =>
      rcases List.mem_cons.mp ho with e | hr
      · exact ⟨r, by rw [← e]⟩
      · rw [List.map_cons, List.pairwise_cons] at srt
        have := srt.1 _ (List.mem_map.mpr ⟨one, hr, rfl⟩)
        exact absurd this (Nat.not_lt_zero _)
end G
end
section
set_option Elab.async false
set_option linter.all false
set_option maxRecDepth 100000
set_option maxHeartbeats 4000000
/-! M6: dicts of samples; bounds of descriptions. -/
namespace G
open PySem L2
def kvD (ss : List Sy) : List (Int × D) := ss.map fun s => (((s.1.val : Nat) : Int), dS s)
theorem kv_find : ∀ (ss : List Sy) (k : Fin 8), (kvD ss).lookup ((k.val : Nat) : Int) = (ss.find? (fun s => s.1 == k)).map dS
  | [], _ => rfl
  | s :: r, k => by
    show List.lookup _ ((((s.1.val : Nat) : Int), dS s) :: kvD r) = _
    rw [List.lookup_cons, List.find?_cons]
    by_cases h : s.1 = k
    · subst h; simp
    · have h1 : (((k.val : Nat) : Int) == ((s.1.val : Nat) : Int)) = false := by
        rw [beq_eq_false_iff_ne]; intro e; exact h (Fin.ext (by omega))
      have h2 : (s.1 == k) = false := by rw [beq_eq_false_iff_ne]; exact h
      rw [h1, h2]
      exact kv_find r k
theorem kv_none {ss : List Sy} {k : Fin 8} (h : (kvD ss).lookup ((k.val : Nat) : Int) = none) : ∀ s ∈ ss, s.1 ≠ k := by
  rw [kv_find] at h
  intro s hs e
  have := List.find?_eq_none.mp (Option.map_eq_none_iff.mp h) s hs
  simp [e] at this
theorem kv_some {ss : List Sy} {k : Fin 8} {d : D} (h : (kvD ss).lookup ((k.val : Nat) : Int) = some d) : ∃ s ∈ ss, s.1 = k := by
  rw [kv_find] at h
  cases hf : ss.find? (fun s => s.1 == k) with
  | none => rw [hf] at h; cases h
  | some t => exact ⟨t, List.mem_of_find?_eq_some hf, by simpa using List.find?_some hf⟩
theorem kv_get {ss : List Sy} {k : Fin 8} (h : ∃ s ∈ ss, s.1 = k) : (kvD ss).lookup ((k.val : Nat) : Int) = some (dS (smp ss k)) := by
  rw [kv_find]
  unfold smp
  cases hf : ss.find? (fun s => s.1 == k) with
  | none =>
    obtain ⟨s, hs, e⟩ := h
    have := List.find?_eq_none.mp hf s hs
    simp [e] at this
  | some t => rfl
theorem kvD_snoc (ss : List Sy) (s : Sy) : kvD ss ++ [(((s.1.val : Nat) : Int), dS s)] = kvD (ss ++ [s]) := by unfold kvD; rw [List.map_append]; rfl
theorem kvD_vals (ss : List Sy) : (kvD ss).map (·.2) = ss.map dS := by unfold kvD; rw [List.map_map]; rfl
theorem len_flat {α β γ : Type} (f : α → β → γ) (ys : List β) : ∀ xs : List α, (xs.flatMap fun x => ys.map (f x)).length = xs.length * ys.length
  | [] => by simp
  | x :: xs => by
    rw [List.flatMap_cons, List.length_append, len_flat f ys xs, List.length_map, List.length_cons, Nat.add_mul]; omega
theorem flat_snoc {α β γ : Type} {f : α → β → γ} {xs : List α} {ys : List β} {i j : Nat} {x : α} {y : β} (hx : xs[i]? = some x) (hy : ys[j]? = some y) :
    ((xs.take i).flatMap fun x => ys.map (f x)) ++ (ys.take j).map (f x) ++ [f x y] = ((xs.take i).flatMap fun x => ys.map (f x)) ++ (ys.take (j + 1)).map (f x) := by
  rw [takeS hy, List.map_append, List.append_assoc]; rfl
theorem flat_next {α β γ : Type} {f : α → β → γ} {xs : List α} {ys : List β} {i : Nat} {x : α} (hx : xs[i]? = some x) :
    ((xs.take i).flatMap fun x => ys.map (f x)) ++ (ys.take ys.length).map (f x) = (xs.take (i + 1)).flatMap fun x => ys.map (f x) := by
  rw [takeS hx, List.flatMap_append, List.take_length]; simp
def GB (n : Nat) (gs : List Sy) : Prop := gs.length ≤ 6 ∧ ∀ g ∈ gs, BV n g.2
theorem off_bv {n : Nat} {gs ss : List Sy} (hg : GB n gs) (S : SM n gs ss) : BL (n + 6) (offs gs ss) := by
  intro v hv
  obtain ⟨x, hx, rfl⟩ := List.mem_map.mp hv
  obtain ⟨s, hs, g, hgm, rfl⟩ := mem_shifts.mp hx
  obtain ⟨_, _, _, ht⟩ := S.sc.sft hs hgm
  exact BV.mul (n := n + 5) (m := n + 4) (BV.mul (n := n + 4) (m := n) (S.bv hs) (hg.2 g hgm) (by omega) (by omega)) (BV.inv (S.bv ht)) (by omega) (by omega)
theorem off_len {n : Nat} {gs ss : List Sy} (hg : GB n gs) (S : SM n gs ss) : (offs gs ss).length ≤ 48 := by
  unfold offs shifts
  rw [List.length_map, len_flat]
  have h1 := S.len
  have h2 := hg.1
  exact Nat.le_trans (Nat.mul_le_mul h1 h2) (by decide)
/-- a description and how great it is -/
structure DescB (n : Nat) (gs : List Sy) (b : List V2) (ms : List Sy) : Prop extends IsDesc gs b ms where
  bb : BL (2 * n + 14) b
  bm : ∀ m ∈ ms, BV (5 * n + 34) m.2
theorem descB_of {n : Nat} {gs ss : List Sy} {b : List V2} (hg : GB n gs) (S : SM n gs ss) (hb : NB (n + 6) b (offs gs ss)) {nss : List (List Int)} (hp : nss.Perm ((ss.map (redS b)).map lS)) (hs : nss.Pairwise lle) :
    ∃ ms, nss = ms.map lS ∧ DescB n gs b ms := by
  obtain ⟨ms, e, hd, hm⟩ := desc_of S.sc hb.nf hb.sp hp hs
  refine ⟨ms, e, hd, fun v hv => (hb.bL v hv).mono (by omega), fun m hm' => ?_⟩
  obtain ⟨s, hs', rfl⟩ := List.mem_map.mp (hm m hm')
  exact (BV.red hb.nf hb.bL (S.bv hs')).mono (by omega)
def dD (b : List V2) (ms : List Sy) : D := .tup [dVs b, dG ms]
end G
end
section
set_option Elab.async false
set_option linter.all false
set_option maxRecDepth 100000
set_option maxHeartbeats 4000000
namespace G
open PySem L2
variable {P : Program} {w : World} {K : PySem.W.Frag} {mg : Str → Option Value} {base : Heap}
def W_samples_of : Spec := fun want ds R => ∃ (n : Nat) (gs : List Sy), want = [] ∧ ds = [dG gs] ∧ GB n gs ∧ R = fun d st => ∃ p ss, d = .ref p ∧ st = [⟨p, true, .dic (kvD ss)⟩] ∧ SM n gs ss
theorem ok_samples_of {f : Addr} {fd : FuncData} (Fu : FunT K "samples_of" 41 [] f fd) (mb : MB mg) (mc : MC K mg) (f_product_of : Fn P w K mg base "product_of" 3 2 [] W_product_of) : FnOk P w K mg base CX0 4 f fd ["generators"] (spW K 1 W_samples_of) := by
  refine fnok_mk (N := ["generators", "found", "waiting", "here", "generator", "there"]) (Gs := ["SHIFT", "IDENTITY", "product_of"]) (Vi := [0, 1, 2, 3, 4, 5]) Fu ⟨rfl, rfl, rfl, by decide +kernel, rfl, by decide +kernel, by decide +kernel⟩ (by decide +kernel) rfl ?_
  rintro X F want ds R c hsc ⟨n, gs, rfl, rfl, hg, rfl⟩ hl hF
  show SL X F _ [some _, none, none, none, none, none] _ _ _
  refine sl_cons (ss_par2 c (i := 1) (j := 2) rfl rfl rfl rfl (by rw [hsc]; rfl) (by rw [hsc]; rfl) ?_)
  refine ea_cons ?_
  refine ee_disp1 c fun p1 => ?_
  refine ee_glob c (j := 0) mc.SHIFT rfl ?_
  refine ee_glob c (j := 1) mc.IDENTITY rfl ?_
  refine ⟨_, _, rfl, .here, ?_⟩
  refine ea_cons ?_
  refine ee_lst ?_
  refine ea_cons ?_
  refine ee_glob c (j := 1) mc.IDENTITY rfl ?_
  refine ea_nil ?_
  refine ⟨Nat.le_of_ble_eq_true rfl, fun p2 => ?_⟩
  refine ea_nil ?_
  refine ⟨_, _, _, _, rfl, (.there .here), (.there (.there .here)), ?_⟩
  refine sl_cons (ss_while c (fun m en st => ∃ ss ws o3 o4 o5, en = [some (dG gs), some (.ref p1), some (.ref p2), o3, o4, o5] ∧ st = [⟨p2, true, .lst (ws.map dS)⟩, ⟨p1, true, .dic (kvD ss)⟩] ∧ SJ n gs ss ws none 0 ∧ m = 16 - 2 * ss.length + ws.length ∧ m ≤ 15) ⟨_, [one], [one], none, none, none, rfl, rfl, .init, rfl, by decide⟩ ?_)
  rintro m en1 st1 ⟨ss, ws, o3, o4, o5, rfl, rfl, hJ, rfl, hm15⟩
  refine et_neNil c ?_
  refine ee_var c (i := 2) rfl rfl rfl ?_
  refine ⟨_, _, rfl, .here, by first | rfl | exact pls_dSl _ | exact pls_dVl _ | exact pls_ints _ | exact pls_dKl _, ?_⟩
  refine ⟨fun h3 => ?_, fun h3 => ?_⟩
  · refine isT ?_
    refine sl_cons (ss_set c (i := 3) rfl rfl ?_)
    refine ee_pop0 ?_
    refine ee_var c (i := 2) rfl rfl rfl ?_
    obtain ⟨h0, r, rfl⟩ : ∃ h0 r, ws = h0 :: r := by
      cases ws with
      | nil => exact absurd rfl h3
      | cons a b => exact ⟨a, b, rfl⟩
    refine ⟨p2, dS h0, r.map dS, _, rfl, .here, ?_⟩
    refine ⟨_, (.there (.there (.there .here))), ?_⟩
    refine sl_cons (ss_for c (vs := [4]) ?_)
    refine ei_tup ?_
    refine ee_var c (i := 0) rfl rfl rfl ?_
    refine ⟨_, rfl, ?_⟩
    refine ⟨fun j en st => ∃ ss1 ws1 o4 o5, en = [some (dG gs), some (.ref p1), some (.ref p2), some (dS h0), o4, o5] ∧ st = [⟨p2, true, .lst (ws1.map dS)⟩, ⟨p1, true, .dic (kvD ss1)⟩] ∧ SJ n gs ss1 ws1 (some h0) j ∧ 16 - 2 * ss1.length + ws1.length ≤ 16 - 2 * ss.length + r.length, ⟨ss, r, o4, o5, rfl, rfl, hJ.pop, Nat.le_refl _⟩, fun _ _ _ _ _ => trivial, ?_, ?_⟩
    · rintro i d en2 st2 hd ⟨ss1, ws1, o4, o5, rfl, rfl, hK, hm⟩
      obtain ⟨g, hgi, rfl⟩ := getMap hd
      have hbg := hg.2 g (List.mem_of_getElem? hgi)
      have hl1 := hK.len
      refine eg_name c (i := 4) rfl rfl (by decide) (.there (.there (.there (.there .here)))) ?_
      refine sl_cons (ss_set c (i := 5) rfl rfl ?_)
      refine ee_pcall c (i := 2) f_product_of (by decide) rfl ?_
      refine ea_cons ?_
      refine ee_var c (i := 3) rfl rfl rfl ?_
      refine ea_cons ?_
      refine ee_var c (i := 4) rfl rfl rfl ?_
      refine ea_nil ?_
      refine ⟨_, ⟨h0, g, rfl, rfl⟩, rfl, ?_⟩
      rintro _ rfl
      refine ⟨_, (.there (.there (.there (.there (.there .here))))), ?_⟩
      refine sl_cons (ss_if ?_)
      refine et_dnin c ?_
      refine ee_ixT ?_
      refine ee_var c (i := 5) rfl rfl rfl ?_
      refine ee_int ?_
      refine ⟨_, _, _, rfl, rfl, rfl, ?_⟩
      refine ee_var c (i := 1) rfl rfl rfl ?_
      refine ⟨_, _, _, rfl, rfl, .there .here, ?_, ?_⟩
      · intro h4
        refine isT ?_
        refine sl_cons (ss_dput c ?_)
        refine ee_var c (i := 5) rfl rfl rfl ?_
        refine ee_var c (i := 1) rfl rfl rfl ?_
        refine ee_ixT ?_
        refine ee_var c (i := 5) rfl rfl rfl ?_
        refine ee_int ?_
        refine ⟨_, _, _, rfl, rfl, rfl, ?_⟩
        have hno := kv_none (k := kmul h0.1 g.1) h4
        refine ⟨_, _, _, _, rfl, rfl, .there .here, h4, by rw [kvD, List.length_map]; have := sizeLine_big; omega, ?_⟩
        refine sl_cons (ss_expr ?_)
        refine ee_append ?_
        refine ee_var c (i := 2) rfl rfl rfl ?_
        refine ⟨_, _, rfl, .here, ?_⟩
        refine ee_var c (i := 5) rfl rfl rfl ?_
        have hnew := hK.new hgi hbg hno
        have hwl : ws1.length ≤ 64 := by simp only [List.length_cons] at hm15; omega
        refine ⟨_, _, .here, by rw [List.length_map]; have := sizeLine_big; omega, ?_⟩
        refine sl_nil ?_
        refine sl_nil ?_
        refine ⟨ss1 ++ [mul h0 g], ws1 ++ [mul h0 g], _, _, rfl, ?_, hnew, ?_⟩
        · rw [← kvD_snoc, List.map_append]; rfl
        · have := hnew.len
          simp only [List.length_append, List.length_cons, List.length_nil] at *
          omega
      · intro dh4 h4
        refine isF ?_
        refine sl_nil ?_
        refine sl_nil ?_
        exact ⟨ss1, ws1, _, _, rfl, rfl, hK.old hgi (kv_some h4), hm⟩
    · rintro en2 st2 ⟨ss1, ws1, o4, o5, rfl, rfl, hK, hm⟩
      rw [List.length_map] at hK
      refine sl_nil ?_
      refine ⟨_, ?_, ss1, ws1, _, _, _, rfl, rfl, hK.next, rfl, ?_⟩ <;> simp only [List.length_cons] at * <;> omega
  · refine isF ?_
    refine sl_cons (ss_ret ?_)
    refine ee_var c (i := 1) rfl rfl rfl ?_
    have hw0 : ws = [] := by
      cases ws with
      | nil => rfl
      | cons a b => exact absurd (fun z => nomatch z) h3
    subst hw0
    exact ⟨_, .cons _ (.refl _), fun e he => by simp at he; rw [he], p1, ss, rfl, rfl, hJ.done⟩
def W_shifts_of : Spec := fun want ds R => ∃ (n : Nat) (gs ss : List Sy) (q : Addr), want = [⟨q, true, .dic (kvD ss)⟩] ∧ ds = [dG gs, .ref q] ∧ GB n gs ∧ SM n gs ss ∧ R = fun d st => ∃ p, d = .ref p ∧ st = [⟨p, true, .lst ((shifts gs ss).map dS)⟩, ⟨q, true, .dic (kvD ss)⟩]
theorem ok_shifts_of {f : Addr} {fd : FuncData} (Fu : FunT K "shifts_of" 42 [] f fd) (mb : MB mg) (mc : MC K mg) (f_product_of : Fn P w K mg base "product_of" 3 2 [] W_product_of) (f_inverse_of : Fn P w K mg base "inverse_of" 3 1 [] W_inverse_of) : FnOk P w K mg base CX0 4 f fd ["generators", "samples"] (spW K 2 W_shifts_of) := by
  refine fnok_mk (N := ["generators", "samples", "found", "sample", "generator", "there"]) (Gs := ["product_of", "inverse_of"]) (Vi := [0, 1, 2, 3, 4, 5]) Fu ⟨rfl, rfl, rfl, by decide +kernel, rfl, by decide +kernel, by decide +kernel⟩ (by decide +kernel) rfl ?_
  rintro X F want ds R c hsc ⟨n, gs, ss, q, rfl, rfl, hg, hS, rfl⟩ hl hF
  show SL X F _ [some _, some _, none, none, none, none] _ _ _
  refine sl_cons (ss_set c (i := 2) rfl rfl ?_)
  refine ee_lst ?_
  refine ea_nil ?_
  refine ⟨Nat.le_of_ble_eq_true rfl, fun p1 => ?_⟩
  refine ⟨_, (.there (.there .here)), ?_⟩
  refine sl_cons (ss_lock (.there .here) fun HL hF => ?_)
  refine ss_for c (vs := [3]) ?_
  refine ei_vals hF ?_
  refine ee_var c (i := 1) rfl rfl rfl ?_
  refine ⟨rfl, ?_⟩
  refine ⟨fun i en st => ∃ o3 o4 o5, en = [some (dG gs), some (.ref q), some (.ref p1), o3, o4, o5] ∧ st = [⟨p1, true, .lst (((ss.take i).flatMap fun s => gs.map fun g => sft ss s g).map dS)⟩, ⟨q, false, .dic (kvD ss)⟩], ⟨none, none, none, rfl, rfl⟩, fun _ _ _ _ _ => trivial, ?_, ?_⟩
  · rintro i d en2 st2 hd ⟨o3, o4, o5, rfl, rfl⟩
    rw [kvD_vals] at hd
    obtain ⟨s, hs, rfl⟩ := getMap hd
    have hsm := List.mem_of_getElem? hs
    refine eg_name c (i := 3) rfl rfl (by decide) (.there (.there (.there .here))) ?_
    refine sl_cons (ss_for c (vs := [4]) ?_)
    refine ei_tup ?_
    refine ee_var c (i := 0) rfl rfl rfl ?_
    refine ⟨_, rfl, ?_⟩
    refine ⟨fun j en st => ∃ o4 o5, en = [some (dG gs), some (.ref q), some (.ref p1), some (dS s), o4, o5] ∧ st = [⟨p1, true, .lst ((((ss.take i).flatMap fun s => gs.map fun g => sft ss s g) ++ (gs.take j).map fun g => sft ss s g).map dS)⟩, ⟨q, false, .dic (kvD ss)⟩], ⟨o4, o5, rfl, by simp⟩, fun _ _ _ _ _ => trivial, ?_, ?_⟩
    · rintro j d en2 st2 hd ⟨o4, o5, rfl, rfl⟩
      obtain ⟨g, hgi, rfl⟩ := getMap hd
      have hgm := List.mem_of_getElem? hgi
      have hcl := hS.cl s hsm g hgm
      refine eg_name c (i := 4) rfl rfl (by decide) (.there (.there (.there (.there .here)))) ?_
      refine sl_cons (ss_set c (i := 5) rfl rfl ?_)
      refine ee_pcall c (i := 0) f_product_of (by decide) rfl ?_
      refine ea_cons ?_
      refine ee_var c (i := 3) rfl rfl rfl ?_
      refine ea_cons ?_
      refine ee_var c (i := 4) rfl rfl rfl ?_
      refine ea_nil ?_
      refine ⟨_, ⟨s, g, rfl, rfl⟩, rfl, ?_⟩
      rintro _ rfl
      refine ⟨_, (.there (.there (.there (.there (.there .here))))), ?_⟩
      refine sl_cons (ss_expr ?_)
      refine ee_append ?_
      refine ee_var c (i := 2) rfl rfl rfl ?_
      refine ⟨_, _, rfl, .here, ?_⟩
      refine ee_pcall c (i := 0) f_product_of (by decide) rfl ?_
      refine ea_cons ?_
      refine ee_var c (i := 5) rfl rfl rfl ?_
      refine ea_cons ?_
      refine ee_pcall c (i := 1) f_inverse_of (by decide) rfl ?_
      refine ea_cons ?_
      refine ee_dget c ?_
      refine ee_var c (i := 1) rfl rfl rfl ?_
      refine ee_ixT ?_
      refine ee_var c (i := 5) rfl rfl rfl ?_
      refine ee_int ?_
      refine ⟨_, _, _, rfl, rfl, rfl, ?_⟩
      refine ⟨_, _, _, dS (smp ss (kmul s.1 g.1)), rfl, rfl, .there .here, kv_get hcl, ?_⟩
      refine ea_nil ?_
      refine ⟨_, ⟨smp ss (kmul s.1 g.1), rfl, rfl⟩, rfl, ?_⟩
      rintro _ rfl
      refine ea_nil ?_
      refine ⟨_, ⟨mul s g, inv (smp ss (kmul s.1 g.1)), rfl, rfl⟩, rfl, ?_⟩
      rintro _ rfl
      have hsz : ((((ss.take i).flatMap fun s => gs.map fun g => sft ss s g) ++ (gs.take j).map fun g => sft ss s g).map dS).length < sizeLine := by
        rw [List.length_map, List.length_append, len_flat, List.length_map, List.length_take, List.length_take]
        have h1 := hS.len
        have h2 := hg.1
        have h3 : min i ss.length * gs.length ≤ 8 * 6 := Nat.mul_le_mul (by omega) h2
        have := sizeLine_big
        omega
      refine ⟨_, _, .here, hsz, ?_⟩
      refine sl_nil ?_
      refine ⟨_, _, rfl, ?_⟩
      rw [← flat_snoc hs hgi]; simp only [List.map_append]; rfl
    · rintro en2 st2 ⟨o4, o5, rfl, rfl⟩
      rw [List.length_map, flat_next hs]
      refine sl_nil ?_
      exact ⟨_, _, _, rfl, rfl⟩
  · rintro en2 st2 ⟨o3, o4, o5, rfl, rfl⟩
    rw [kvD_vals, List.length_map, List.take_length]
    refine ⟨_, (.there .here), ?_⟩
    refine sl_cons (ss_ret ?_)
    refine ee_var c (i := 2) rfl rfl rfl ?_
    exact ⟨_, .refl _, fun e he => by simp at he; rcases he with rfl | rfl <;> rfl, p1, rfl, rfl⟩
def W_reduced_by : Spec := Pu fun ds p => ∃ (b : List V2) (s : Sy), ds = [dVs b, dS s] ∧ Nf b ∧ BL 8000 b ∧ BV 100000 s.2 ∧ p = fun d => d = dS (redS b s)
theorem ok_reduced_by {f : Addr} {fd : FuncData} (Fu : FunT K "reduced_by" 44 [] f fd) (mb : MB mg) (mc : MC K mg) (f_reduced : Fn P w K mg base "reduced" 3 2 [] W_reduced) (f_offset : Fn P w K mg base "offset" 1 1 [] W_offset) : FnOk P w K mg base CX0 4 f fd ["basis", "symmetry"] (spW K 2 W_reduced_by) := by
  refine fnok_mk (N := ["basis", "symmetry"]) (Gs := ["reduced", "offset"]) (Vi := [0, 1]) Fu ⟨rfl, rfl, rfl, by decide +kernel, rfl, by decide +kernel, by decide +kernel⟩ (by decide +kernel) rfl ?_
  rintro X F want ds R c hsc ⟨rfl, p, ⟨b, s, rfl, nf, hb, hv, rfl⟩, rfl⟩ hl hF
  show SL X F _ [some _, some _] _ _ _
  refine sl_cons (ss_ret ?_)
  refine ee_catT ?_
  refine ee_to1 ?_
  refine ee_var c (i := 1) rfl rfl rfl ?_
  refine ⟨_, rfl, ?_⟩
  refine ee_pcall c (i := 0) f_reduced (by decide) rfl ?_
  refine ea_cons ?_
  refine ee_var c (i := 0) rfl rfl rfl ?_
  refine ea_cons ?_
  refine ee_pcall c (i := 1) f_offset (by decide) rfl ?_
  refine ea_cons ?_
  refine ee_var c (i := 1) rfl rfl rfl ?_
  refine ea_nil ?_
  refine ⟨_, ⟨s, rfl, rfl⟩, rfl, ?_⟩
  rintro _ rfl
  refine ea_nil ?_
  refine ⟨_, ⟨b, s.2, rfl, nf, hb, hv, rfl⟩, rfl, ?_⟩
  rintro _ rfl
  refine ⟨_, _, rfl, rfl, Nat.le_of_ble_eq_true rfl, ?_⟩
  exact .pure ⟨rfl, rfl⟩
def W_describe_by : Spec := Pu fun ds p => ∃ (n : Nat) (gs : List Sy), ds = [dG gs] ∧ n ≤ 90 ∧ GB n gs ∧ p = fun d => ∃ b ms, d = dD b ms ∧ DescB n gs b ms
theorem ok_describe_by {f : Addr} {fd : FuncData} (Fu : FunT K "describe_by" 43 [] f fd) (mb : MB mg) (mc : MC K mg) (f_samples_of : Fn P w K mg base "samples_of" 4 1 [] W_samples_of) (f_basis_of : Fn P w K mg base "basis_of" 2 1 [] W_basis_of) (f_offset : Fn P w K mg base "offset" 1 1 [] W_offset) (f_shifts_of : Fn P w K mg base "shifts_of" 4 2 [] W_shifts_of) (f_reduced_by : Fn P w K mg base "reduced_by" 4 2 [] W_reduced_by) : FnOk P w K mg base CX0 5 f fd ["generators"] (spW K 1 W_describe_by) := by
  refine fnok_mk (N := ["generators", "samples", "basis", "shift", "sample"]) (Gs := ["samples_of", "basis_of", "shifts_of", "tuple", "sorted"]) (Vi := [0, 1, 2]) Fu ⟨rfl, rfl, rfl, by decide +kernel, rfl, by decide +kernel, by decide +kernel⟩ (by decide +kernel) rfl ?_
  rintro X F want ds R c hsc ⟨rfl, p, ⟨n, gs, rfl, hn, hg, rfl⟩, rfl⟩ hl hF
  show SL X F _ [some _, none, none, none, none] _ _ _
  refine sl_cons (ss_set c (i := 1) rfl rfl ?_)
  refine ee_call c (i := 0) f_samples_of (by decide) rfl ?_
  refine ea_cons ?_
  refine ee_var c (i := 0) rfl rfl rfl ?_
  refine ea_nil ?_
  refine ⟨[], _, _, .nil _, ⟨n, gs, rfl, rfl, hg, rfl⟩, rfl, ?_⟩
  rintro _ _ ⟨pS, ss, rfl, rfl, hS⟩
  refine ⟨_, (.there .here), ?_⟩
  refine sl_cons (ss_set c (i := 2) rfl rfl ?_)
  refine ee_call c (i := 1) f_basis_of (by decide) rfl ?_
  refine ea_cons ?_
  refine ee_lc c [("shift", 3)] (G' := ["offset"]) (V' := [3]) (by rw [hsc]; decide +kernel) (by rw [hsc]; decide +kernel) ?_
  refine ei_lst ?_
  refine ee_call c (i := 2) f_shifts_of (by decide) rfl ?_
  refine ea_cons ?_
  refine ee_var c (i := 0) rfl rfl rfl ?_
  refine ea_cons ?_
  refine ee_var c (i := 1) rfl rfl rfl ?_
  refine ea_nil ?_
  refine ⟨_, _, _, .wr .here (.nil _), ⟨n, gs, ss, _, rfl, rfl, hg, hS, rfl⟩, rfl, ?_⟩
  rintro _ _ ⟨pF, rfl, rfl⟩
  refine ⟨_, _, rfl, .here, ?_⟩
  intro p1
  refine ⟨fun i st => st = [⟨p1, true, .lst ((((shifts gs ss).take i).map Prod.snd).map dV)⟩, ⟨pF, true, .lst ((shifts gs ss).map dS)⟩, ⟨pS, true, .dic (kvD ss)⟩], rfl, fun _ _ _ e => by rw [e]; exact .there .here, ?_, ?_⟩
  · rintro i d st2 hd rfl Xp1 hX
    obtain ⟨x, hx, rfl⟩ := getMap hd
    refine eg_name hX.2 (i := 3) rfl rfl (by decide) (.there (.there (.there .here))) ?_
    intro Xp1 hX
    refine ee_pcall hX.2 (i := 0) f_offset (by decide) rfl ?_
    refine ea_cons ?_
    refine ee_var hX.2 (i := 3) rfl rfl rfl ?_
    refine ea_nil ?_
    refine ⟨_, ⟨x, rfl, rfl⟩, rfl, ?_⟩
    rintro _ rfl
    refine ⟨_, _, .here, by rw [List.map_map]; exact lenTake hx (by have h1 := off_len hg hS; unfold offs at h1; rw [List.length_map] at h1; have := sizeLine_big; omega), ?_⟩
    show _ = _
    rw [takeS hx, List.map_append, List.map_append]; rfl
  · rintro st2 rfl
    rw [List.length_map, List.take_length]
    refine ea_nil ?_
    refine ⟨_, _, _, .rd .here (.nil _), ⟨n + 6, offs gs ss, by omega, by have := off_len hg hS; omega, off_bv hg hS, .inr ⟨_, rfl, rfl⟩, rfl⟩, rfl, ?_⟩
    rintro _ _ ⟨⟨b, rfl, hN⟩, rfl⟩
    refine ⟨_, (.there (.there .here)), ?_⟩
    refine sl_cons (ss_ret ?_)
    refine ee_tup ?_
    refine ea_cons ?_
    refine ee_var c (i := 2) rfl rfl rfl ?_
    refine ea_cons ?_
    refine ee_tupleL c (i := 3) rfl mb.tuple ?_
    refine ee_sortT c (i := 4) rfl mb.sorted ?_
    refine ee_lock (.there (.there .here)) fun HL hF => ?_
    refine ee_lc c [("sample", 4)] (G' := ["reduced_by"]) (V' := [2, 4]) (by rw [hsc]; decide +kernel) (by rw [hsc]; decide +kernel) ?_
    refine ei_vals hF ?_
    refine ee_var c (i := 1) rfl rfl rfl ?_
    refine ⟨rfl, ?_⟩
    intro p2
    refine ⟨fun i st => st = [⟨p2, true, .lst (((ss.take i).map (redS b)).map dS)⟩, ⟨p1, true, .lst ((offs gs ss).map dV)⟩, ⟨pF, true, .lst ((shifts gs ss).map dS)⟩, ⟨pS, false, .dic (kvD ss)⟩], rfl, fun _ _ _ _ => trivial, ?_, ?_⟩
    · rintro i d st2 hd rfl Xp2 hX
      rw [kvD_vals] at hd
      obtain ⟨s, hs, rfl⟩ := getMap hd
      have hsm := List.mem_of_getElem? hs
      refine eg_name hX.2 (i := 4) rfl rfl (by decide) (.there (.there (.there (.there .here)))) ?_
      intro Xp2 hX
      refine ee_pcall hX.2 (i := 0) f_reduced_by (by decide) rfl ?_
      refine ea_cons ?_
      refine ee_var hX.2 (i := 2) rfl rfl rfl ?_
      refine ea_cons ?_
      refine ee_var hX.2 (i := 4) rfl rfl rfl ?_
      refine ea_nil ?_
      refine ⟨_, ⟨b, s, rfl, hN.nf, fun v hv => (hN.bL v hv).mono (by omega), (hS.bv hsm).mono (by omega), rfl⟩, rfl, ?_⟩
      rintro _ rfl
      refine ⟨_, _, .here, by rw [List.map_map]; exact lenTake hs (by have h1 := hS.len; have := sizeLine_big; omega), ?_⟩
      show _ = _
      rw [takeS hs, List.map_append, List.map_append]; rfl
    · rintro st2 rfl
      rw [kvD_vals, List.length_map, List.take_length, map_dS_tI]
      refine ⟨_, .there (.there (.there .here)), ?_⟩
      refine ⟨_, (ss.map (redS b)).map lS, 3, rfl, .here, by rw [List.length_map, List.length_map]; have := hS.len; omega, by decide, fun ns hns => by obtain ⟨m, _, rfl⟩ := List.mem_map.mp hns; rfl, fun pR nss hp hs => ?_⟩
      obtain ⟨ms, rfl, hD⟩ := descB_of hg hS hN hp hs
      rw [← map_dS_tI]
      refine ⟨_, _, rfl, .here, ?_⟩
      refine ea_nil ?_
      refine ⟨Nat.le_of_ble_eq_true rfl, ?_⟩
      exact .pure ⟨⟨b, ms, rfl, hD⟩, rfl⟩
end G
end
section
set_option Elab.async false
set_option linter.all false
set_option maxRecDepth 100000
set_option maxHeartbeats 4000000
/-! M7: kinds generated; generators of a description. -/
namespace G
open PySem L2
inductive KG (ks : List (Fin 8)) : Fin 8 → Prop
  | one : KG ks 0
  | mul {a k : Fin 8} : KG ks a → k ∈ ks → KG ks (kmul a k)
theorem KG.mono {ks js : List (Fin 8)} (h : ∀ k ∈ ks, k ∈ js) {a : Fin 8} (g : KG ks a) : KG js a := by
  induction g with
  | one => exact .one
  | mul _ hk ih => exact ih.mul (h _ hk)
theorem KG.mul' {ks : List (Fin 8)} {a b : Fin 8} (g : KG ks a) (h : KG ks b) : KG ks (kmul a b) := by
  induction h with
  | one => rw [kmul_one]; exact g
  | mul _ hk ih => rw [← kmul_assoc]; exact ih.mul hk
theorem KG.gen {ks : List (Fin 8)} {k : Fin 8} (h : k ∈ ks) : KG ks k := by have := KG.mul .one h; rwa [one_kmul] at this
/-- the search -/
structure KJ (ks fs ws : List (Fin 8)) (h : Option (Fin 8)) (j : Nat) : Prop where
  nd : fs.Nodup
  one : (0 : Fin 8) ∈ fs
  mem : ∀ s ∈ fs, KG ks s
  sub : ∀ s ∈ ws, s ∈ fs
  cl : ∀ s ∈ fs, s ∈ ws ∨ h = some s ∨ ∀ k ∈ ks, kmul s k ∈ fs
  hh : ∀ s, h = some s → s ∈ fs ∧ ∀ k ∈ ks.take j, kmul s k ∈ fs
theorem KJ.init {ks : List (Fin 8)} : KJ ks [0] [0] none 0 :=
  ⟨by simp, by simp, fun s hs => by simp at hs; subst hs; exact .one, fun s hs => hs, fun s hs => .inl hs, fun s e => nomatch e⟩
theorem KJ.len {ks fs ws : List (Fin 8)} {h : Option (Fin 8)} {j : Nat} (S : KJ ks fs ws h j) : fs.length ≤ 8 := fin_le _ S.nd
theorem KJ.pop {ks fs ws : List (Fin 8)} {h : Fin 8} (S : KJ ks fs (ws ++ [h]) none 0) : KJ ks fs ws (some h) 0 :=
  ⟨S.nd, S.one, S.mem, fun s hs => S.sub s (List.mem_append_left _ hs), fun s hs => by
    rcases S.cl s hs with z | z | z
    · rcases List.mem_append.mp z with z | z
      · exact .inl z
      · simp at z; subst z; exact .inr (.inl rfl)
    · cases z
    · exact .inr (.inr z), fun s e => by cases e; exact ⟨S.sub h (by simp), fun g hg => by rw [List.take_zero] at hg; cases hg⟩⟩
theorem KJ.old {ks fs ws : List (Fin 8)} {h k : Fin 8} {j : Nat} (S : KJ ks fs ws (some h) j) (hk : ks[j]? = some k) (ho : kmul h k ∈ fs) : KJ ks fs ws (some h) (j + 1) :=
  ⟨S.nd, S.one, S.mem, S.sub, S.cl, fun s e => by
    obtain ⟨h1, h2⟩ := S.hh s e
    refine ⟨h1, fun x hx => ?_⟩
    rw [takeS hk, List.mem_append] at hx
    rcases hx with hx | hx
    · exact h2 x hx
    · simp at hx; subst hx; cases e; exact ho⟩
theorem KJ.new {ks fs ws : List (Fin 8)} {h k : Fin 8} {j : Nat} (S : KJ ks fs ws (some h) j) (hk : ks[j]? = some k) (ho : ¬ kmul h k ∈ fs) : KJ ks (fs ++ [kmul h k]) (ws ++ [kmul h k]) (some h) (j + 1) := by
  obtain ⟨hm, hp⟩ := S.hh h rfl
  have hkm := List.mem_of_getElem? hk
  refine ⟨?_, List.mem_append_left _ S.one, fun s hs => ?_, fun s hs => ?_, fun s hs => ?_, fun s e => ?_⟩
  · rw [List.nodup_append]
    refine ⟨S.nd, by simp, fun a ha b hb e => ?_⟩
    simp at hb
    subst hb
    exact ho (e ▸ ha)
  · rcases List.mem_append.mp hs with hs | hs
    · exact S.mem s hs
    · simp at hs; subst hs; exact (S.mem h hm).mul hkm
  · rcases List.mem_append.mp hs with hs | hs
    · exact List.mem_append_left _ (S.sub s hs)
    · exact List.mem_append_right _ hs
  · rcases List.mem_append.mp hs with hs | hs
    · rcases S.cl s hs with z | z | z
      · exact .inl (List.mem_append_left _ z)
      · exact .inr (.inl z)
      · exact .inr (.inr fun x hx => List.mem_append_left _ (z x hx))
    · exact .inl (List.mem_append_right _ hs)
  · cases e
    refine ⟨List.mem_append_left _ hm, fun x hx => ?_⟩
    rw [takeS hk, List.mem_append] at hx
    rcases hx with hx | hx
    · exact List.mem_append_left _ (hp x hx)
    · simp at hx; subst hx; simp
theorem KJ.next {ks fs ws : List (Fin 8)} {h : Fin 8} (S : KJ ks fs ws (some h) ks.length) : KJ ks fs ws none 0 :=
  ⟨S.nd, S.one, S.mem, S.sub, fun s hs => by
    rcases S.cl s hs with z | z | z
    · exact .inl z
    · refine .inr (.inr ?_)
      have := (S.hh s z).2
      rwa [List.take_length] at this
    · exact .inr (.inr z), fun s e => nomatch e⟩
theorem KJ.done {ks fs : List (Fin 8)} (S : KJ ks fs [] none 0) (k : Fin 8) : k ∈ fs ↔ KG ks k := by
  refine ⟨S.mem k, fun h => ?_⟩
  induction h with
  | one => exact S.one
  | mul _ hk ih =>
    rcases S.cl _ ih with z | z | z
    · cases z
    · cases z
    · exact z _ hk
/-! ### chains -/
inductive Ch : List (Fin 8) → Prop
  | nil : Ch []
  | snoc {cs : List (Fin 8)} {k : Fin 8} : Ch cs → ¬ KG cs k → Ch (cs ++ [k])
/-- closure by rounds, as masks -/
def rnd (ks : List (Fin 8)) (fs : List (Fin 8)) : List (Fin 8) := kinds.filter fun k => fs.any (fun f => f == k || ks.any fun x => kmul f x == k)
theorem rnd_kg {ks fs : List (Fin 8)} (h : ∀ f ∈ fs, KG ks f) : ∀ f ∈ rnd ks fs, KG ks f := by
  intro f hf
  have := (List.mem_filter.mp hf).2
  rw [List.any_eq_true] at this
  obtain ⟨x, hx, e⟩ := this
  rw [Bool.or_eq_true] at e
  rcases e with e | e
  · rw [← eq_of_beq e]; exact h x hx
  · rw [List.any_eq_true] at e
    obtain ⟨y, hy, e⟩ := e
    rw [← eq_of_beq e]; exact (h x hx).mul hy
def clo (ks : List (Fin 8)) : List (Fin 8) := rnd ks (rnd ks (rnd ks (rnd ks (rnd ks [0]))))
theorem clo_kg {ks : List (Fin 8)} : ∀ f ∈ clo ks, KG ks f :=
  rnd_kg (rnd_kg (rnd_kg (rnd_kg (rnd_kg fun f hf => by simp at hf; subst hf; exact .one))))
theorem chain4 : ∀ a b c d : Fin 8, a ∈ clo [] ∨ b ∈ clo [a] ∨ c ∈ clo [a, b] ∨ d ∈ clo [a, b, c] := by decide +kernel
theorem Ch.parts : ∀ {cs : List (Fin 8)}, Ch cs → ∀ {xs ys : List (Fin 8)} {k : Fin 8}, cs = xs ++ k :: ys → ¬ KG xs k := by
  intro cs h
  induction h with
  | nil => intro xs ys k e; simp at e
  | @snoc cs k0 _ hk ih =>
    intro xs ys k e
    rcases List.eq_nil_or_concat ys with rfl | ⟨ys', z, rfl⟩
    · have := List.append_inj' e rfl
      obtain ⟨rfl, e2⟩ := this
      cases e2
      exact hk
    · rw [List.concat_eq_append] at e
      have e' : cs ++ [k0] = (xs ++ k :: ys') ++ [z] := by rw [e]; simp
      exact ih (List.append_inj' e' rfl).1
theorem Ch.len {cs : List (Fin 8)} (h : Ch cs) : cs.length ≤ 3 := by
  match cs, h with
  | [], _ => simp
  | [_], _ => simp
  | [_, _], _ => simp
  | [_, _, _], _ => simp
  | a :: b :: c :: d :: r, h =>
    exfalso
    rcases chain4 a b c d with z | z | z | z
    · exact h.parts (xs := []) rfl (clo_kg _ z)
    · exact h.parts (xs := [a]) rfl (clo_kg _ z)
    · exact h.parts (xs := [a, b]) rfl (clo_kg _ z)
    · exact h.parts (xs := [a, b, c]) rfl (clo_kg _ z)
/-! ### generators of a description -/
structure CI (ms : List Sy) (i : Nat) (cs : List Sy) : Prop where
  sub : ∀ c ∈ cs, c ∈ ms
  ch : Ch (cs.map Prod.fst)
  kg : ∀ m ∈ ms.take i, KG (cs.map Prod.fst) m.1
theorem CI.init {ms : List Sy} : CI ms 0 [] := ⟨fun c hc => (nomatch hc), .nil, fun m hm => by rw [List.take_zero] at hm; cases hm⟩
theorem CI.old {ms cs : List Sy} {i : Nat} {m : Sy} (h : CI ms i cs) (hm : ms[i]? = some m) (hk : KG (cs.map Prod.fst) m.1) : CI ms (i + 1) cs :=
  ⟨h.sub, h.ch, fun x hx => by
    rw [takeS hm, List.mem_append] at hx
    rcases hx with hx | hx
    · exact h.kg x hx
    · simp at hx; subst hx; exact hk⟩
theorem CI.new {ms cs : List Sy} {i : Nat} {m : Sy} (h : CI ms i cs) (hm : ms[i]? = some m) (hk : ¬ KG (cs.map Prod.fst) m.1) : CI ms (i + 1) (cs ++ [m]) := by
  refine ⟨fun x hx => ?_, by rw [List.map_append]; exact h.ch.snoc hk, fun x hx => ?_⟩
  · rcases List.mem_append.mp hx with hx | hx
    · exact h.sub x hx
    · simp at hx; subst hx; exact List.mem_of_getElem? hm
  · rw [takeS hm, List.mem_append] at hx
    rw [List.map_append]
    rcases hx with hx | hx
    · exact (h.kg x hx).mono fun k hk => List.mem_append_left _ hk
    · simp at hx; subst hx; exact .gen (by simp)
theorem CI.len {ms cs : List Sy} {i : Nat} (h : CI ms i cs) : cs.length ≤ 3 := by have := h.ch.len; rwa [List.length_map] at this
def gensOf (b : List V2) (cs : List Sy) : List Sy := b.map (fun v => ((0, v) : Sy)) ++ cs
theorem gens_same {gs : List Sy} {b : List V2} {ms cs : List Sy} (h : IsDesc gs b ms) (hc : CI ms ms.length cs) (a : Sy) : InG (gensOf b cs) a ↔ InG gs a := by
  have sub : ∀ g ∈ gensOf b cs, InG gs g := fun g hg => by
    rcases List.mem_append.mp hg with hg | hg
    · obtain ⟨v, hv, rfl⟩ := List.mem_map.mp hg
      exact h.lat.mpr (.mem hv)
    · exact h.ing (hc.sub g hg)
  refine ⟨InG.sub sub, fun ha => ?_⟩
  have latI : ∀ v, Sp b v → InG (gensOf b cs) (0, v) := fun v hv => by
    refine Sp.ind (p := fun l => InG (gensOf b cs) (0, l)) .one ?_ ?_ ?_ hv
    · intro u v hu hv; rw [← mul_shifts]; exact hu.mul' hv
    · intro u hu; rw [← inv_shift]; exact hu.inv'
    · intro v hv; exact .gen (List.mem_append_left _ (List.mem_map.mpr ⟨v, hv, rfl⟩))
  have kgI : ∀ k, KG (cs.map Prod.fst) k → ∃ g, InG (gensOf b cs) g ∧ g.1 = k := fun k hk => by
    induction hk with
    | one => exact ⟨one, .one, rfl⟩
    | mul _ hk ih =>
      obtain ⟨g, hg, rfl⟩ := ih
      obtain ⟨c, hc', rfl⟩ := List.mem_map.mp hk
      exact ⟨mul g c, hg.mul (List.mem_append_right _ hc'), rfl⟩
  have hm := (h.mem a).mp ha
  have hk := hc.kg (redS b a) (by rw [List.take_length]; exact hm)
  obtain ⟨g, hg, e⟩ := kgI _ hk
  have hd : InG gs (mul a (inv g)) := ha.mul' (InG.sub sub hg).inv'
  have e0 : (mul a (inv g)).1 = 0 := by
    show kmul a.1 (kinv g.1) = 0
    rw [e]; exact kmul_inv _
  have e1 : mul a (inv g) = (0, (mul a (inv g)).2) := Prod.ext e0 rfl
  rw [e1] at hd
  have h2 := latI _ (h.lat.mp hd)
  rw [← e1] at h2
  have h3 := h2.mul' hg
  rwa [mul_assoc, inv_mul, mul_one] at h3
theorem gens_gb {n : Nat} {gs : List Sy} {b : List V2} {ms cs : List Sy} (h : DescB n gs b ms) {i : Nat} (hc : CI ms i cs) : GB (5 * n + 34) (gensOf b cs) := by
  refine ⟨?_, fun g hg => ?_⟩
  · unfold gensOf
    rw [List.length_append, List.length_map]
    have := h.nf.len
    have := hc.len
    omega
  · rcases List.mem_append.mp hg with hg | hg
    · obtain ⟨v, hv, rfl⟩ := List.mem_map.mp hg
      exact (h.bb v hv).mono (by omega)
    · exact h.bm g (hc.sub g hg)
/-- strictly rising lists of the same members -/
theorem rise_eq : ∀ {xs ys : List Int}, xs.Pairwise (· < ·) → ys.Pairwise (· < ·) → (∀ n, n ∈ xs ↔ n ∈ ys) → xs = ys
  | [], [], _, _, _ => rfl
  | [], y :: ys, _, _, h => absurd ((h y).mpr (by simp)) (by simp)
  | x :: xs, [], _, _, h => absurd ((h x).mp (by simp)) (by simp)
  | x :: xs, y :: ys, hx, hy, h => by
    rw [List.pairwise_cons] at hx hy
    have e : x = y := by
      have h1 := (h x).mp (by simp)
      have h2 := (h y).mpr (by simp)
      rcases List.mem_cons.mp h1 with z | z
      · exact z
      · rcases List.mem_cons.mp h2 with z2 | z2
        · exact z2.symm
        · have := hy.1 x z
          have := hx.1 y z2
          omega
    subst e
    rw [rise_eq hx.2 hy.2 fun n => ?_]
    have := h n
    constructor
    · intro hn
      rcases List.mem_cons.mp (this.mp (List.mem_cons_of_mem _ hn)) with z | z
      · subst z; exact absurd (hx.1 _ hn) (by omega)
      · exact z
    · intro hn
      rcases List.mem_cons.mp (this.mpr (List.mem_cons_of_mem _ hn)) with z | z
      · subst z; exact absurd (hy.1 _ hn) (by omega)
      · exact z
theorem kinds_rise {gs : List Sy} {b : List V2} {ms : List Sy} (h : IsDesc gs b ms) : (ms.map fun m => ((m.1.val : Nat) : Int)).Pairwise (· < ·) := by
  have := List.pairwise_map.mp h.srt
  exact List.pairwise_map.mpr (this.imp fun h => by omega)
end G
end
section
set_option Elab.async false
set_option linter.all false
set_option maxRecDepth 100000
set_option maxHeartbeats 4000000
namespace G
open PySem L2
variable {P : Program} {w : World} {K : PySem.W.Frag} {mg : Str → Option Value} {base : Heap}
def W_is_generators : Spec := Pu fun ds p => ∃ gs : List Sy, ds = [dG gs] ∧ gs.length ≤ 6 ∧ p = fun d => d = .bl true
theorem ok_is_generators {f : Addr} {fd : FuncData} (Fu : FunT K "is_generators" 39 [] f fd) (mb : MB mg) (mc : MC K mg) (f_is_symmetry : Fn P w K mg base "is_symmetry" 3 1 [] W_is_symmetry) : FnOk P w K mg base CX0 4 f fd ["thing"] (spW K 1 W_is_generators) := by
  refine fnok_mk (N := ["thing", "one"]) (Gs := ["isinstance", "tuple", "len", "MOST_GENERATORS", "all"]) (Vi := [0]) Fu ⟨rfl, rfl, rfl, by decide +kernel, rfl, by decide +kernel, by decide +kernel⟩ (by decide +kernel) rfl ?_
  rintro X F want ds R c hsc ⟨rfl, p, ⟨gs, rfl, hg, rfl⟩, rfl⟩ hl hF
  show SL X F _ [some _, none] _ _ _
  refine sl_cons (ss_ret ?_)
  refine ee_and ?_
  refine ee_isi c (i := 0) rfl mb.isinstance (j := 1) rfl mb.tuple rfl ?_
  refine ee_var c (i := 0) rfl rfl rfl ?_
  refine ⟨true, rfl, ?_⟩
  refine ⟨_, rfl, ?_⟩
  refine isT ?_
  refine ee_and ?_
  refine ee_leV ?_
  refine ee_lenT c (i := 2) rfl mb.len ?_
  refine ee_var c (i := 0) rfl rfl rfl ?_
  refine ⟨_, rfl, ?_⟩
  refine ee_glob c (j := 3) mc.MOST rfl ?_
  refine ⟨_, _, rfl, rfl, ?_⟩
  intro b1 hb1
  refine ⟨_, rfl, ?_⟩
  cases b1
  · exact absurd (hb1.mpr (by rw [List.length_map]; omega)) (by decide)
  · refine isT ?_
    refine ee_one ?_
    refine ee_all c (i := 4) rfl mb.all ?_
    refine ee_lc c [("one", 1)] (G' := ["is_symmetry"]) (V' := [1]) (by rw [hsc]; decide +kernel) (by rw [hsc]; decide +kernel) ?_
    refine ei_tup ?_
    refine ee_var c (i := 0) rfl rfl rfl ?_
    refine ⟨_, rfl, ?_⟩
    intro p2
    refine ⟨fun i st => st = ⟨p2, true, .lst ((List.replicate i true).map D.bl)⟩ :: [], rfl, fun _ _ _ _ => trivial, ?_, ?_⟩
    · rintro i d st2 hd rfl Xp2 hX
      obtain ⟨s, hs, rfl⟩ := getMap hd
      refine eg_name hX.2 (i := 1) rfl rfl (by decide) (.there .here) ?_
      intro Xp2 hX
      refine ee_pcall hX.2 (i := 0) f_is_symmetry (by decide) rfl ?_
      refine ea_cons ?_
      refine ee_var hX.2 (i := 1) rfl rfl rfl ?_
      refine ea_nil ?_
      refine ⟨_, ⟨_, rfl, rfl⟩, rfl, ?_⟩
      rintro _ rfl
      refine ⟨_, _, .here, lenRep hd (by rw [List.length_map]; have := sizeLine_big; omega), ?_⟩
      exact snocTrue _ _
    · rintro st2 rfl
      refine ⟨_, _, rfl, .here, ?_⟩
      rw [allrep]
      exact .pure ⟨rfl, rfl⟩
def W_need_generators : Spec := Pu fun ds p => ∃ gs : List Sy, ds = [dG gs] ∧ gs.length ≤ 6 ∧ p = fun d => d = .non
theorem ok_need_generators {f : Addr} {fd : FuncData} (Fu : FunT K "need_generators" 40 [] f fd) (mb : MB mg) (mc : MC K mg) (f_is_generators : Fn P w K mg base "is_generators" 4 1 [] W_is_generators) : FnOk P w K mg base CX0 5 f fd ["thing"] (spW K 1 W_need_generators) := by
  refine fnok_mk (N := ["thing"]) (Gs := ["is_generators", "GeneratorsError"]) (Vi := [0]) Fu ⟨rfl, rfl, rfl, by decide +kernel, rfl, by decide +kernel, by decide +kernel⟩ (by decide +kernel) rfl ?_
  rintro X F want ds R c hsc ⟨rfl, p, ⟨gs, rfl, hg, rfl⟩, rfl⟩ hl hF
  show SL X F _ [some _] _ _ _
  refine sl_cons (ss_if ?_)
  refine et_not ?_
  refine et_val ?_
  refine ee_pcall c (i := 0) f_is_generators (by decide) rfl ?_
  refine ea_cons ?_
  refine ee_var c (i := 0) rfl rfl rfl ?_
  refine ea_nil ?_
  refine ⟨_, ⟨_, rfl, by first | assumption | omega, rfl⟩, rfl, ?_⟩
  rintro _ rfl
  refine ⟨_, rfl, ?_⟩
  refine isF ?_
  refine sl_nil ?_
  refine sl_nil ?_
  exact .pure ⟨rfl, rfl⟩
def W_describe : Spec := Pu fun ds p => ∃ (n : Nat) (gs : List Sy), ds = [dG gs] ∧ n ≤ 90 ∧ GB n gs ∧ p = fun d => ∃ b ms, d = dD b ms ∧ DescB n gs b ms
theorem ok_describe {f : Addr} {fd : FuncData} (Fu : FunT K "describe" 45 [] f fd) (mb : MB mg) (mc : MC K mg) (f_need_generators : Fn P w K mg base "need_generators" 5 1 [] W_need_generators) (f_describe_by : Fn P w K mg base "describe_by" 5 1 [] W_describe_by) : FnOk P w K mg base CX0 6 f fd ["generators"] (spW K 1 W_describe) := by
  refine fnok_mk (N := ["generators"]) (Gs := ["need_generators", "describe_by"]) (Vi := [0]) Fu ⟨rfl, rfl, rfl, by decide +kernel, rfl, by decide +kernel, by decide +kernel⟩ (by decide +kernel) rfl ?_
  rintro X F want ds R c hsc ⟨rfl, p, ⟨n, gs, rfl, hn, hg, rfl⟩, rfl⟩ hl hF
  show SL X F _ [some _] _ _ _
  refine sl_cons (ss_expr ?_)
  refine ee_pcall c (i := 0) f_need_generators (by decide) rfl ?_
  refine ea_cons ?_
  refine ee_var c (i := 0) rfl rfl rfl ?_
  refine ea_nil ?_
  refine ⟨_, ⟨_, rfl, hg.1, rfl⟩, rfl, ?_⟩
  rintro _ rfl
  refine sl_cons (ss_ret ?_)
  refine ee_pcall c (i := 1) f_describe_by (by decide) rfl ?_
  refine ea_cons ?_
  refine ee_var c (i := 0) rfl rfl rfl ?_
  refine ea_nil ?_
  refine ⟨_, ⟨n, gs, rfl, hn, hg, rfl⟩, rfl, ?_⟩
  rintro _ ⟨b, ms, rfl, hD⟩
  exact .pure ⟨⟨b, ms, rfl, hD⟩, rfl⟩
def W_holds : Spec := Pu fun ds p => ∃ (b : List V2) (ms : List Sy) (s : Sy), ds = [dD b ms, dS s] ∧ Nf b ∧ BL 8000 b ∧ BV 100000 s.2 ∧ p = fun d => ∃ t, d = .bl t ∧ (t = true ↔ redS b s ∈ ms)
theorem ok_holds {f : Addr} {fd : FuncData} (Fu : FunT K "holds" 46 [] f fd) (mb : MB mg) (mc : MC K mg) (f_reduced_by : Fn P w K mg base "reduced_by" 4 2 [] W_reduced_by) : FnOk P w K mg base CX0 5 f fd ["description", "symmetry"] (spW K 2 W_holds) := by
  refine fnok_mk (N := ["description", "symmetry", "basis", "members"]) (Gs := ["reduced_by"]) (Vi := [0, 1, 2, 3]) Fu ⟨rfl, rfl, rfl, by decide +kernel, rfl, by decide +kernel, by decide +kernel⟩ (by decide +kernel) rfl ?_
  rintro X F want ds R c hsc ⟨rfl, p, ⟨b, ms, s, rfl, nf, hb, hv, rfl⟩, rfl⟩ hl hF
  show SL X F _ [some _, some _, none, none] _ _ _
  refine sl_cons (ss_asg (vs := [2, 3]) ?_ )
  refine ee_var c (i := 0) rfl rfl rfl ?_
  refine eg_tup c (n := 2) ?_ rfl
  refine egs_cons ?_
  refine eg_name c (i := 2) rfl rfl (by decide) (.there (.there .here)) ?_
  refine egs_cons ?_
  refine eg_name c (i := 3) rfl rfl (by decide) (.there (.there (.there .here))) ?_
  refine egs_nil ?_
  refine sl_cons (ss_ret ?_)
  refine ee_inT c ?_
  refine ee_pcall c (i := 0) f_reduced_by (by decide) rfl ?_
  refine ea_cons ?_
  refine ee_var c (i := 2) rfl rfl rfl ?_
  refine ea_cons ?_
  refine ee_var c (i := 1) rfl rfl rfl ?_
  refine ea_nil ?_
  refine ⟨_, ⟨b, s, rfl, nf, hb, hv, rfl⟩, rfl, ?_⟩
  rintro _ rfl
  refine ee_var c (i := 3) rfl rfl rfl ?_
  refine ⟨_, rfl, by first | rfl | exact pl_dV _ | exact pl_dS _, by first | rfl | exact pls_dSl _ | exact pls_dVl _ | exact pls_ints _, ?_⟩
  intro b1 hb1
  exact .pure ⟨⟨b1, rfl, hb1.trans (mem_map_iff fun _ _ => dS_inj)⟩, rfl⟩
def W_contains : Spec := Pu fun ds p => ∃ (n : Nat) (gs : List Sy) (s : Sy), ds = [dG gs, dS s] ∧ n ≤ 90 ∧ GB n gs ∧ BV 100000 s.2 ∧ p = fun d => ∃ t, d = .bl t ∧ (t = true ↔ InG gs s)
theorem ok_contains {f : Addr} {fd : FuncData} (Fu : FunT K "contains" 47 [] f fd) (mb : MB mg) (mc : MC K mg) (f_need_generators : Fn P w K mg base "need_generators" 5 1 [] W_need_generators) (f_need_symmetry : Fn P w K mg base "need_symmetry" 4 1 [] W_need_symmetry) (f_holds : Fn P w K mg base "holds" 5 2 [] W_holds) (f_describe_by : Fn P w K mg base "describe_by" 5 1 [] W_describe_by) : FnOk P w K mg base CX0 6 f fd ["generators", "symmetry"] (spW K 2 W_contains) := by
  refine fnok_mk (N := ["generators", "symmetry"]) (Gs := ["need_generators", "need_symmetry", "holds", "describe_by"]) (Vi := [0, 1]) Fu ⟨rfl, rfl, rfl, by decide +kernel, rfl, by decide +kernel, by decide +kernel⟩ (by decide +kernel) rfl ?_
  rintro X F want ds R c hsc ⟨rfl, p, ⟨n, gs, s, rfl, hn, hg, hv, rfl⟩, rfl⟩ hl hF
  show SL X F _ [some _, some _] _ _ _
  refine sl_cons (ss_expr ?_)
  refine ee_pcall c (i := 0) f_need_generators (by decide) rfl ?_
  refine ea_cons ?_
  refine ee_var c (i := 0) rfl rfl rfl ?_
  refine ea_nil ?_
  refine ⟨_, ⟨_, rfl, hg.1, rfl⟩, rfl, ?_⟩
  rintro _ rfl
  refine sl_cons (ss_expr ?_)
  refine ee_pcall c (i := 1) f_need_symmetry (by decide) rfl ?_
  refine ea_cons ?_
  refine ee_var c (i := 1) rfl rfl rfl ?_
  refine ea_nil ?_
  refine ⟨_, ⟨_, rfl, rfl⟩, rfl, ?_⟩
  rintro _ rfl
  refine sl_cons (ss_ret ?_)
  refine ee_pcall c (i := 2) f_holds (by decide) rfl ?_
  refine ea_cons ?_
  refine ee_pcall c (i := 3) f_describe_by (by decide) rfl ?_
  refine ea_cons ?_
  refine ee_var c (i := 0) rfl rfl rfl ?_
  refine ea_nil ?_
  refine ⟨_, ⟨n, gs, rfl, hn, hg, rfl⟩, rfl, ?_⟩
  rintro _ ⟨b, ms, rfl, hD⟩
  refine ea_cons ?_
  refine ee_var c (i := 1) rfl rfl rfl ?_
  refine ea_nil ?_
  refine ⟨_, ⟨b, ms, s, rfl, hD.nf, fun v hv => (hD.bb v hv).mono (by omega), hv, rfl⟩, rfl, ?_⟩
  rintro _ ⟨b1, rfl, hb1⟩
  exact .pure ⟨⟨b1, rfl, hb1.trans (hD.mem s).symm⟩, rfl⟩
def W_kinds_from : Spec := fun want ds R => ∃ (ks : List (Fin 8)) (q : Addr), want = [⟨q, false, .lst (ks.map dK)⟩] ∧ ds = [.ref q] ∧ R = fun d st => ∃ (p : Addr) (fs : List (Fin 8)), d = .ref p ∧ st = [⟨p, true, .lst (fs.map dK)⟩] ∧ ∀ k, k ∈ fs ↔ KG ks k
theorem ok_kinds_from {f : Addr} {fd : FuncData} (Fu : FunT K "kinds_from" 51 [] f fd) (mb : MB mg) (mc : MC K mg) (f_kind_after : Fn P w K mg base "kind_after" 2 2 [] W_kind_after) : FnOk P w K mg base CX0 3 f fd ["kinds"] (spW K 1 W_kinds_from) := by
  refine fnok_mk (N := ["kinds", "found", "waiting", "here", "kind", "there"]) (Gs := ["SHIFT", "kind_after"]) (Vi := [0, 1, 2, 3, 4, 5]) Fu ⟨rfl, rfl, rfl, by decide +kernel, rfl, by decide +kernel, by decide +kernel⟩ (by decide +kernel) rfl ?_
  rintro X F want ds R c hsc ⟨ks, q, rfl, rfl, rfl⟩ hl hF
  show SL X F _ [some _, none, none, none, none, none] _ _ _
  refine sl_cons (ss_par2 c (i := 1) (j := 2) rfl rfl rfl rfl (by rw [hsc]; rfl) (by rw [hsc]; rfl) ?_)
  refine ea_cons ?_
  refine ee_lst ?_
  refine ea_cons ?_
  refine ee_glob c (j := 0) mc.SHIFT rfl ?_
  refine ea_nil ?_
  refine ⟨Nat.le_of_ble_eq_true rfl, fun p1 => ?_⟩
  refine ea_cons ?_
  refine ee_lst ?_
  refine ea_cons ?_
  refine ee_glob c (j := 0) mc.SHIFT rfl ?_
  refine ea_nil ?_
  refine ⟨Nat.le_of_ble_eq_true rfl, fun p2 => ?_⟩
  refine ea_nil ?_
  refine ⟨_, _, _, _, rfl, (.there .here), (.there (.there .here)), ?_⟩
  refine sl_cons (ss_while c (fun m en st => ∃ fs ws o3 o4 o5, en = [some (.ref q), some (.ref p1), some (.ref p2), o3, o4, o5] ∧ st = [⟨p2, true, .lst (ws.map dK)⟩, ⟨p1, true, .lst (fs.map dK)⟩, ⟨q, false, .lst (ks.map dK)⟩] ∧ KJ ks fs ws none 0 ∧ m = 16 - 2 * fs.length + ws.length ∧ m ≤ 15) ⟨_, [0], [0], none, none, none, rfl, rfl, .init, rfl, by decide⟩ ?_)
  rintro m en1 st1 ⟨fs, ws, o3, o4, o5, rfl, rfl, hJ, rfl, hm15⟩
  refine et_neNil c ?_
  refine ee_var c (i := 2) rfl rfl rfl ?_
  refine ⟨_, _, rfl, .here, by first | rfl | exact pls_dSl _ | exact pls_dVl _ | exact pls_ints _ | exact pls_dKl _, ?_⟩
  refine ⟨fun h3 => ?_, fun h3 => ?_⟩
  · refine isT ?_
    refine sl_cons (ss_set c (i := 3) rfl rfl ?_)
    refine ee_pop ?_
    refine ee_var c (i := 2) rfl rfl rfl ?_
    obtain ⟨r, h0, rfl⟩ : ∃ r h0, ws = r ++ [h0] := by
      rcases List.eq_nil_or_concat ws with rfl | ⟨r, h0, e⟩
      · exact absurd rfl h3
      · exact ⟨r, h0, by rw [e, List.concat_eq_append]⟩
    refine ⟨p2, dK h0, r.map dK, _, rfl, by rw [List.map_append]; exact .here, ?_⟩
    refine ⟨_, (.there (.there (.there .here))), ?_⟩
    refine sl_cons (ss_for c (vs := [4]) ?_)
    refine ei_lst ?_
    refine ee_var c (i := 0) rfl rfl rfl ?_
    refine ⟨_, _, rfl, .there (.there .here), ?_⟩
    refine ⟨fun j en st => ∃ fs1 ws1 o4 o5, en = [some (.ref q), some (.ref p1), some (.ref p2), some (dK h0), o4, o5] ∧ st = [⟨p2, true, .lst (ws1.map dK)⟩, ⟨p1, true, .lst (fs1.map dK)⟩, ⟨q, false, .lst (ks.map dK)⟩] ∧ KJ ks fs1 ws1 (some h0) j ∧ 16 - 2 * fs1.length + ws1.length ≤ 16 - 2 * fs.length + r.length, ⟨fs, r, o4, o5, rfl, rfl, hJ.pop, Nat.le_refl _⟩, fun _ _ _ _ ⟨_, _, _, _, _, e, _⟩ => by rw [e]; exact .there (.there .here), ?_, ?_⟩
    · rintro i d en2 st2 hd ⟨fs1, ws1, o4, o5, rfl, rfl, hK, hm⟩
      obtain ⟨g, hgi, rfl⟩ := getMap hd
      have hl1 := hK.len
      have hwl : ws1.length ≤ 64 := by simp only [List.length_append, List.length_cons, List.length_nil] at hm15; omega
      refine eg_name c (i := 4) rfl rfl (by decide) (.there (.there (.there (.there .here)))) ?_
      refine sl_cons (ss_set c (i := 5) rfl rfl ?_)
      refine ee_pcall c (i := 1) f_kind_after (by decide) rfl ?_
      refine ea_cons ?_
      refine ee_var c (i := 3) rfl rfl rfl ?_
      refine ea_cons ?_
      refine ee_var c (i := 4) rfl rfl rfl ?_
      refine ea_nil ?_
      refine ⟨_, ⟨h0, g, rfl, rfl⟩, rfl, ?_⟩
      rintro _ rfl
      refine ⟨_, (.there (.there (.there (.there (.there .here))))), ?_⟩
      refine sl_cons (ss_if ?_)
      refine et_ninL c ?_
      refine ee_var c (i := 5) rfl rfl rfl ?_
      refine ee_var c (i := 1) rfl rfl rfl ?_
      refine ⟨_, _, rfl, .there .here, pl_int, pls_dKl _, ?_⟩
      refine ⟨fun h4 => ?_, fun h4 => ?_⟩
      · refine isT ?_
        refine sl_cons (ss_expr ?_)
        refine ee_append ?_
        refine ee_var c (i := 1) rfl rfl rfl ?_
        have hno : ¬ kmul h0 g ∈ fs1 := fun z => h4 ((mem_map_iff fun _ _ => dK_inj).mpr z)
        refine ⟨_, _, rfl, .there .here, ?_⟩
        refine ee_var c (i := 5) rfl rfl rfl ?_
        refine ⟨_, _, .there .here, by rw [List.length_map]; have := sizeLine_big; omega, ?_⟩
        refine sl_cons (ss_expr ?_)
        refine ee_append ?_
        refine ee_var c (i := 2) rfl rfl rfl ?_
        refine ⟨_, _, rfl, .here, ?_⟩
        refine ee_var c (i := 5) rfl rfl rfl ?_
        have hnew := hK.new hgi hno
        refine ⟨_, _, .here, by rw [List.length_map]; have := sizeLine_big; omega, ?_⟩
        refine sl_nil ?_
        refine sl_nil ?_
        refine ⟨fs1 ++ [kmul h0 g], ws1 ++ [kmul h0 g], _, _, rfl, ?_, hnew, ?_⟩
        · rw [List.map_append, List.map_append]; rfl
        · have := hnew.len
          simp only [List.length_append, List.length_cons, List.length_nil] at *
          omega
      · refine isF ?_
        refine sl_nil ?_
        refine sl_nil ?_
        have hyes : kmul h0 g ∈ fs1 := (mem_map_iff fun _ _ => dK_inj).mp (Classical.not_not.mp h4)
        exact ⟨fs1, ws1, _, _, rfl, rfl, hK.old hgi hyes, hm⟩
    · rintro en2 st2 ⟨fs1, ws1, o4, o5, rfl, rfl, hK, hm⟩
      rw [List.length_map] at hK
      refine sl_nil ?_
      refine ⟨_, ?_, fs1, ws1, _, _, _, rfl, rfl, hK.next, rfl, ?_⟩ <;> simp only [List.length_append, List.length_cons, List.length_nil] at * <;> omega
  · refine isF ?_
    refine sl_cons (ss_ret ?_)
    refine ee_var c (i := 1) rfl rfl rfl ?_
    have hw0 : ws = [] := by
      cases ws with
      | nil => rfl
      | cons a b => exact absurd (fun z => nomatch z) h3
    subst hw0
    exact ⟨[⟨p1, true, .lst (fs.map dK)⟩], .cons _ (.cons_cons _ (.cons _ .slnil)), fun e he => by simp at he; rw [he], p1, fs, rfl, rfl, hJ.done⟩
def W_generators_by : Spec := Pu fun ds p => ∃ (n : Nat) (gs : List Sy) (b : List V2) (ms : List Sy), ds = [dD b ms] ∧ DescB n gs b ms ∧ p = fun d => ∃ hs, d = dG hs ∧ GB (5 * n + 34) hs ∧ ∀ a, InG hs a ↔ InG gs a
theorem ok_generators_by {f : Addr} {fd : FuncData} (Fu : FunT K "generators_by" 52 [] f fd) (mb : MB mg) (mc : MC K mg) (f_kinds_from : Fn P w K mg base "kinds_from" 3 1 [] W_kinds_from) : FnOk P w K mg base CX0 4 f fd ["description"] (spW K 1 W_generators_by) := by
  refine fnok_mk (N := ["description", "basis", "members", "chosen", "member", "step", "one"]) (Gs := ["kinds_from", "tuple"]) (Vi := [0, 1, 2, 3, 4]) Fu ⟨rfl, rfl, rfl, by decide +kernel, rfl, by decide +kernel, by decide +kernel⟩ (by decide +kernel) rfl ?_
  rintro X F want ds R c hsc ⟨rfl, p, ⟨n, gs, b, ms, rfl, hD, rfl⟩, rfl⟩ hl hF
  show SL X F _ [some _, none, none, none, none, none, none] _ _ _
  refine sl_cons (ss_asg (vs := [1, 2]) ?_ )
  refine ee_var c (i := 0) rfl rfl rfl ?_
  refine eg_tup c (n := 2) ?_ rfl
  refine egs_cons ?_
  refine eg_name c (i := 1) rfl rfl (by decide) (.there .here) ?_
  refine egs_cons ?_
  refine eg_name c (i := 2) rfl rfl (by decide) (.there (.there .here)) ?_
  refine egs_nil ?_
  refine sl_cons (ss_set c (i := 3) rfl rfl ?_)
  refine ee_lst ?_
  refine ea_nil ?_
  refine ⟨Nat.le_of_ble_eq_true rfl, fun p1 => ?_⟩
  refine ⟨_, (.there (.there (.there .here))), ?_⟩
  refine sl_cons (ss_for c (vs := [4]) ?_)
  refine ei_tup ?_
  refine ee_var c (i := 2) rfl rfl rfl ?_
  refine ⟨_, rfl, ?_⟩
  refine ⟨fun i en st => ∃ cs o4, en = [some (dD b ms), some (dVs b), some (dG ms), some (.ref p1), o4, none, none] ∧ st = [⟨p1, true, .lst (cs.map dS)⟩] ∧ CI ms i cs, ⟨[], none, rfl, rfl, .init⟩, fun _ _ _ _ _ => trivial, ?_, ?_⟩
  · rintro i d en2 st2 hd ⟨cs, o4, rfl, rfl, hC⟩
    obtain ⟨m, hm, rfl⟩ := getMap hd
    have hcl := hC.len
    refine eg_name c (i := 4) rfl rfl (by decide) (.there (.there (.there (.there .here)))) ?_
    refine sl_cons (ss_if ?_)
    refine et_ninL c ?_
    refine ee_ixT ?_
    refine ee_var c (i := 4) rfl rfl rfl ?_
    refine ee_int ?_
    refine ⟨_, _, _, rfl, rfl, rfl, ?_⟩
    refine ee_call c (i := 0) f_kinds_from (by decide) rfl ?_
    refine ea_cons ?_
    refine ee_lc c [("one", 6)] (G' := []) (V' := [6]) (by rw [hsc]; decide +kernel) (by rw [hsc]; decide +kernel) ?_
    refine ei_lst ?_
    refine ee_var c (i := 3) rfl rfl rfl ?_
    refine ⟨_, _, rfl, .here, ?_⟩
    intro p2
    refine ⟨fun i st => st = [⟨p2, true, .lst (((cs.take i).map Prod.fst).map dK)⟩, ⟨p1, true, .lst (cs.map dS)⟩], rfl, fun _ _ _ e => by rw [e]; exact .there .here, ?_, ?_⟩
    · rintro i d st2 hd rfl Xp2 hX
      obtain ⟨x, hx, rfl⟩ := getMap hd
      refine eg_name hX.2 (i := 6) rfl rfl (by decide) (.there (.there (.there (.there (.there (.there .here)))))) ?_
      intro Xp2 hX
      refine ee_ixT ?_
      refine ee_var hX.2 (i := 6) rfl rfl rfl ?_
      refine ee_int ?_
      refine ⟨_, _, _, rfl, rfl, rfl, ?_⟩
      refine ⟨_, _, .here, by rw [List.map_map]; exact lenTake hx (by have := sizeLine_big; omega), ?_⟩
      show _ = _
      rw [takeS hx, List.map_append, List.map_append]; rfl
    · rintro st2 rfl
      rw [List.length_map, List.take_length]
      refine ea_nil ?_
      refine ⟨_, _, _, .rd .here (.nil _), ⟨cs.map Prod.fst, _, rfl, rfl, rfl⟩, rfl, ?_⟩
      rintro _ _ ⟨pK, fs, rfl, rfl, hK⟩
      refine ⟨_, _, rfl, .here, pl_int, pls_dKl _, ?_⟩
      refine ⟨fun h3 => ?_, fun h3 => ?_⟩
      · refine isT ?_
        refine sl_st (.cons _ (.cons _ (.refl _))) ?_
        refine sl_cons (ss_expr ?_)
        refine ee_append ?_
        refine ee_var c (i := 3) rfl rfl rfl ?_
        refine ⟨_, _, rfl, .here, ?_⟩
        refine ee_var c (i := 4) rfl rfl rfl ?_
        refine ⟨_, _, .here, by rw [List.length_map]; have := sizeLine_big; omega, ?_⟩
        refine sl_nil ?_
        refine sl_nil ?_
        have hno : ¬ KG (cs.map Prod.fst) m.1 := fun z => h3 ((mem_map_iff fun _ _ => dK_inj).mpr ((hK _).mpr z))
        exact ⟨cs ++ [m], _, rfl, by rw [List.map_append]; rfl, hC.new hm hno⟩
      · refine isF ?_
        refine sl_st (.cons _ (.cons _ (.refl _))) ?_
        refine sl_nil ?_
        refine sl_nil ?_
        have hyes : KG (cs.map Prod.fst) m.1 := (hK _).mp ((mem_map_iff fun _ _ => dK_inj).mp (Classical.not_not.mp h3))
        exact ⟨cs, _, rfl, rfl, hC.old hm hyes⟩
  · rintro en2 st2 ⟨cs, o4, rfl, rfl, hC⟩
    rw [List.length_map] at hC
    refine sl_cons (ss_ret ?_)
    refine ee_tupleL c (i := 1) rfl mb.tuple ?_
    refine ee_catL ?_
    refine ee_lc c [("step", 5)] (G' := ["SHIFT"]) (V' := [5]) (by rw [hsc]; decide +kernel) (by rw [hsc]; decide +kernel) ?_
    refine ei_tup ?_
    refine ee_var c (i := 1) rfl rfl rfl ?_
    refine ⟨_, rfl, ?_⟩
    intro p4
    refine ⟨fun i st => st = [⟨p4, true, .lst (((b.take i).map fun v => ((0, v) : Sy)).map dS)⟩, ⟨p1, true, .lst (cs.map dS)⟩], rfl, fun _ _ _ _ => trivial, ?_, ?_⟩
    · rintro i d st2 hd rfl Xp4 hX
      obtain ⟨v, hv, rfl⟩ := getMap hd
      refine eg_name hX.2 (i := 5) rfl rfl (by decide) (.there (.there (.there (.there (.there .here))))) ?_
      intro Xp4 hX
      refine ee_catT ?_
      refine ee_tup ?_
      refine ea_cons ?_
      refine ee_glob hX.2 (j := 0) mc.SHIFT rfl ?_
      refine ea_nil ?_
      refine ⟨Nat.le_of_ble_eq_true rfl, ?_⟩
      refine ee_var hX.2 (i := 5) rfl rfl rfl ?_
      refine ⟨_, _, rfl, rfl, Nat.le_of_ble_eq_true rfl, ?_⟩
      refine ⟨_, _, .here, by rw [List.map_map]; exact lenTake hv (by have := hD.nf.len; have := sizeLine_big; omega), ?_⟩
      show _ = _
      rw [takeS hv, List.map_append, List.map_append]; rfl
    · rintro st2 rfl
      rw [List.length_map, List.take_length]
      refine ee_var c (i := 3) rfl rfl rfl ?_
      refine ⟨_, _, _, _, _, _, rfl, rfl, .here, .there .here, by rw [List.length_map, List.length_map, List.length_map]; have := hD.nf.len; have := hC.len; have := sizeLine_big; omega, fun pQ => ?_⟩
      rw [← List.map_append]
      refine ⟨_, _, rfl, .here, ?_⟩
      exact .pure ⟨⟨gensOf b cs, rfl, gens_gb hD hC, gens_same hD.toIsDesc hC⟩, rfl⟩
end G
end
section
set_option Elab.async false
set_option linter.all false
set_option maxRecDepth 100000
set_option maxHeartbeats 4000000
namespace G
open PySem L2
variable {P : Program} {w : World} {K : PySem.W.Frag} {mg : Str → Option Value} {base : Heap}
theorem IsDesc.latk {gs : List Sy} {b : List V2} {ms : List Sy} (h : IsDesc gs b ms) {m : Sy} (hm : m ∈ ms) {v : V2} (hv : Sp b v) : Sp b (lin m.1 v) := by
  have hi := ((h.ing hm).inv'.mul' (h.lat.mpr hv)).mul' (h.ing hm)
  have e2 : G.mul (G.mul (G.inv m) (0, v)) m = (0, lin m.1 v) := by
    rw [G.mul_assoc, mul_shift]
    refine Prod.ext (inv_kmul _) ?_
    show vadd (lin m.1 (vneg (lin (kinv m.1) m.2))) (vadd (lin m.1 v) m.2) = lin m.1 v
    rw [lin_neg, lin_inv']
    refine v2_ext ?_ ?_ <;> simp only [vadd, vneg] <;> omega
  rw [e2] at hi
  exact h.lat.mp hi
def W_is_basis : Spec := Pu fun ds p => ∃ (s : Nat) (b : List V2), ds = [dVs b] ∧ s ≤ 100 ∧ Nf b ∧ BL s b ∧ p = fun d => d = .bl true
theorem ok_is_basis {f : Addr} {fd : FuncData} (Fu : FunT K "is_basis" 17 [] f fd) (mb : MB mg) (mc : MC K mg) (f_basis_of : Fn P w K mg base "basis_of" 2 1 [] W_basis_of) (f_is_integer : Fn P w K mg base "is_integer" 1 1 [] W_is_integer) : FnOk P w K mg base CX0 3 f fd ["thing"] (spW K 1 W_is_basis) := by
  refine fnok_mk (N := ["thing", "vector", "one"]) (Gs := ["isinstance", "tuple", "len", "all", "basis_of"]) (Vi := [0, 1]) Fu ⟨rfl, rfl, rfl, by decide +kernel, rfl, by decide +kernel, by decide +kernel⟩ (by decide +kernel) rfl ?_
  rintro X F want ds R c hsc ⟨rfl, p, ⟨s, b, rfl, hs, nf, hb, rfl⟩, rfl⟩ hl hF
  show SL X F _ [some _, none, none] _ _ _
  refine sl_cons (ss_if ?_)
  refine ew_pt ?_
  refine ew_or ?_
  refine et_not ?_
  refine et_val ?_
  refine ee_isi c (i := 0) rfl mb.isinstance (j := 1) rfl mb.tuple rfl ?_
  refine ee_var c (i := 0) rfl rfl rfl ?_
  refine ⟨true, rfl, ?_⟩
  refine ⟨_, rfl, ?_⟩
  refine isF ?_
  refine ew_or1 ?_
  refine et_gt ?_
  refine ee_lenT c (i := 2) rfl mb.len ?_
  refine ee_var c (i := 0) rfl rfl rfl ?_
  refine ⟨_, rfl, ?_⟩
  refine ee_int ?_
  refine ⟨_, _, rfl, rfl, ?_⟩
  refine ⟨fun h1 => ?_, fun h1 => ?_⟩
  · rw [List.length_map] at h1
    have := nf.len
    omega
  · refine isF ?_
    refine sl_nil ?_
    refine sl_cons (ss_for c (vs := [1]) ?_)
    refine ei_tup ?_
    refine ee_var c (i := 0) rfl rfl rfl ?_
    refine ⟨_, rfl, ?_⟩
    refine ⟨fun i en st => ∃ o1, en = [some (dVs b), o1, none] ∧ st = [], ⟨none, rfl, rfl⟩, fun _ _ _ _ _ => trivial, ?_, ?_⟩
    · rintro i d en2 st2 hd ⟨o1, rfl, rfl⟩
      obtain ⟨v, hv, rfl⟩ := getMap hd
      refine eg_name c (i := 1) rfl rfl (by decide) (.there .here) ?_
      refine sl_cons (ss_if ?_)
      refine ew_pt ?_
      refine ew_or ?_
      refine et_not ?_
      refine et_val ?_
      refine ee_isi c (i := 0) rfl mb.isinstance (j := 1) rfl mb.tuple rfl ?_
      refine ee_var c (i := 1) rfl rfl rfl ?_
      refine ⟨true, rfl, ?_⟩
      refine ⟨_, rfl, ?_⟩
      refine isF ?_
      refine ew_or ?_
      refine et_neI ?_
      refine ee_lenT c (i := 2) rfl mb.len ?_
      refine ee_var c (i := 1) rfl rfl rfl ?_
      refine ⟨_, rfl, ?_⟩
      refine ee_int ?_
      refine ⟨_, _, rfl, rfl, ?_⟩
      refine ⟨fun h2 => ?_, fun h2 => ?_⟩
      · exact absurd rfl h2
      · refine isF ?_
        refine ew_or1 ?_
        refine et_not ?_
        refine et_val ?_
        refine ee_all c (i := 3) rfl mb.all ?_
        refine ee_lc c [("one", 2)] (G' := ["is_integer"]) (V' := [2]) (by rw [hsc]; decide +kernel) (by rw [hsc]; decide +kernel) ?_
        refine ei_tup ?_
        refine ee_var c (i := 1) rfl rfl rfl ?_
        refine ⟨_, rfl, ?_⟩
        intro p3
        refine ⟨fun i st => st = ⟨p3, true, .lst ((List.replicate i true).map D.bl)⟩ :: [], rfl, fun _ _ _ _ => trivial, ?_, ?_⟩
        · rintro i d st2 hd rfl Xp3 hX
          obtain ⟨n, hn, rfl⟩ := getMap (xs := [v.1, v.2]) (f := D.int) hd
          refine eg_name hX.2 (i := 2) rfl rfl (by decide) (.there (.there .here)) ?_
          intro Xp3 hX
          refine ee_pcall hX.2 (i := 0) f_is_integer (by decide) rfl ?_
          refine ea_cons ?_
          refine ee_var hX.2 (i := 2) rfl rfl rfl ?_
          refine ea_nil ?_
          refine ⟨_, ⟨_, rfl, rfl⟩, rfl, ?_⟩
          rintro _ rfl
          refine ⟨_, _, .here, lenRep hd (Nat.le_of_ble_eq_true rfl), ?_⟩
          exact snocTrue _ _
        · rintro st2 rfl
          refine ⟨_, _, rfl, .here, ?_⟩
          rw [allrep]
          refine ⟨_, rfl, ?_⟩
          refine isF ?_
          refine sl_st (List.nil_sublist _) ?_
          refine sl_nil ?_
          refine sl_nil ?_
          exact ⟨_, rfl, rfl⟩
    · rintro en2 st2 ⟨o1, rfl, rfl⟩
      refine sl_cons (ss_ret ?_)
      refine ee_eqD c ?_
      refine ee_call c (i := 4) f_basis_of (by decide) rfl ?_
      refine ea_cons ?_
      refine ee_var c (i := 0) rfl rfl rfl ?_
      refine ea_nil ?_
      refine ⟨[], _, _, .nil _, ⟨s, b, by omega, by have := nf.len; omega, hb, .inl ⟨rfl, rfl⟩, rfl⟩, rfl, ?_⟩
      rintro _ _ ⟨⟨b2, rfl, hN⟩, rfl⟩
      obtain rfl : b2 = b := hN.nf.uniq nf hN.sp
      refine ee_var c (i := 0) rfl rfl rfl ?_
      refine ⟨by first | exact pl_dV _ | exact pl_dS _ | exact pl_dVs _ | exact pl_dG _ | rfl, by first | exact pl_dV _ | exact pl_dS _ | exact pl_dVs _ | exact pl_dG _ | rfl, ?_⟩
      intro b4 hb4
      obtain rfl : b4 = true := hb4.mpr rfl
      exact .pure ⟨rfl, rfl⟩
def W_are_members : Spec := Pu fun ds p => ∃ (n : Nat) (gs : List Sy) (b : List V2) (ms : List Sy), ds = [dVs b, dG ms] ∧ n ≤ 90 ∧ DescB n gs b ms ∧ p = fun d => d = .bl true
theorem ok_are_members {f : Addr} {fd : FuncData} (Fu : FunT K "are_members" 48 [] f fd) (mb : MB mg) (mc : MC K mg) (f_reduced_by : Fn P w K mg base "reduced_by" 4 2 [] W_reduced_by) (f_is_symmetry : Fn P w K mg base "is_symmetry" 3 1 [] W_is_symmetry) : FnOk P w K mg base CX0 5 f fd ["basis", "thing"] (spW K 2 W_are_members) := by
  refine fnok_mk (N := ["basis", "thing", "kinds", "one"]) (Gs := ["isinstance", "tuple", "all", "sorted", "set", "IDENTITY"]) (Vi := [0, 1, 2]) Fu ⟨rfl, rfl, rfl, by decide +kernel, rfl, by decide +kernel, by decide +kernel⟩ (by decide +kernel) rfl ?_
  rintro X F want ds R c hsc ⟨rfl, p, ⟨n, gs, b, ms, rfl, hn, hD, rfl⟩, rfl⟩ hl hF
  show SL X F _ [some _, some _, none, none] _ _ _
  refine sl_cons (ss_if ?_)
  refine ew_pt ?_
  refine ew_or ?_
  refine et_not ?_
  refine et_val ?_
  refine ee_isi c (i := 0) rfl mb.isinstance (j := 1) rfl mb.tuple rfl ?_
  refine ee_var c (i := 1) rfl rfl rfl ?_
  refine ⟨true, rfl, ?_⟩
  refine ⟨_, rfl, ?_⟩
  refine isF ?_
  refine ew_or1 ?_
  refine et_not ?_
  refine et_val ?_
  refine ee_all c (i := 2) rfl mb.all ?_
  refine ee_lc c [("one", 3)] (G' := ["is_symmetry"]) (V' := [3]) (by rw [hsc]; decide +kernel) (by rw [hsc]; decide +kernel) ?_
  refine ei_tup ?_
  refine ee_var c (i := 1) rfl rfl rfl ?_
  refine ⟨_, rfl, ?_⟩
  intro p1
  refine ⟨fun i st => st = ⟨p1, true, .lst ((List.replicate i true).map D.bl)⟩ :: [], rfl, fun _ _ _ _ => trivial, ?_, ?_⟩
  · rintro i d st2 hd rfl Xp1 hX
    obtain ⟨s, hs, rfl⟩ := getMap hd
    refine eg_name hX.2 (i := 3) rfl rfl (by decide) (.there (.there (.there .here))) ?_
    intro Xp1 hX
    refine ee_pcall hX.2 (i := 0) f_is_symmetry (by decide) rfl ?_
    refine ea_cons ?_
    refine ee_var hX.2 (i := 3) rfl rfl rfl ?_
    refine ea_nil ?_
    refine ⟨_, ⟨_, rfl, rfl⟩, rfl, ?_⟩
    rintro _ rfl
    refine ⟨_, _, .here, lenRep hd (by rw [List.length_map]; have := hD.len; have := sizeLine_big; omega), ?_⟩
    exact snocTrue _ _
  · rintro st2 rfl
    refine ⟨_, _, rfl, .here, ?_⟩
    rw [allrep]
    refine ⟨_, rfl, ?_⟩
    refine isF ?_
    refine sl_nil ?_
    refine sl_cons (ss_setLc c [("one", 3)] (i := 2) (G' := []) (V' := [3]) rfl rfl (by rw [hsc]; rfl) rfl (by decide +kernel) (by rw [hsc]; decide +kernel) (by rw [hsc]; decide +kernel) ?_)
    refine ei_tup ?_
    refine ee_var c (i := 1) rfl rfl rfl ?_
    refine ⟨_, rfl, ?_⟩
    intro p2
    refine ⟨fun i st => st = [⟨p2, true, .lst (((ms.take i).map fun m => ((m.1.val : Nat) : Int)).map D.int)⟩, ⟨p1, true, .lst ((List.replicate (ms.map dS).length true).map D.bl)⟩], rfl, fun _ _ _ _ => trivial, ?_, ?_⟩
    · rintro i d st2 hd rfl Xp2 hX
      obtain ⟨m, hm, rfl⟩ := getMap hd
      refine eg_name hX.2 (i := 3) rfl rfl (by decide) (.there (.there (.there .here))) ?_
      intro Xp2 hX
      refine ee_ixT ?_
      refine ee_var hX.2 (i := 3) rfl rfl rfl ?_
      refine ee_int ?_
      refine ⟨_, _, _, rfl, rfl, rfl, ?_⟩
      refine ⟨_, _, .here, by rw [List.map_map]; exact lenTake hm (by have := hD.len; have := sizeLine_big; omega), ?_⟩
      show _ = _
      rw [takeS hm, List.map_append, List.map_append]; rfl
    · rintro st2 rfl
      rw [List.length_map, List.take_length]
      refine ⟨_, (.there (.there .here)), ?_⟩
      refine sl_cons (ss_if ?_)
      refine ew_pt ?_
      refine ew_or ?_
      refine et_neL c ?_
      refine ee_var c (i := 2) rfl rfl rfl ?_
      refine ee_sortSetI c (i := 3) rfl mb.sorted (j := 4) rfl mb.set ?_
      refine ee_var c (i := 2) rfl rfl rfl ?_
      refine ⟨_, ms.map (fun m => ((m.1.val : Nat) : Int)), rfl, .here, by rw [List.length_map]; have := hD.len; omega, fun pS ns hpw hmem => ?_⟩
      obtain rfl : ns = ms.map (fun m => ((m.1.val : Nat) : Int)) := rise_eq hpw (kinds_rise hD.toIsDesc) hmem
      refine ⟨_, _, _, _, rfl, rfl, .there .here, .here, pls_ints _, pls_ints _, ?_⟩
      refine ⟨fun h3 => ?_, fun h3 => ?_⟩
      · exact absurd rfl h3
      · refine isF ?_
        refine ew_or1 ?_
        refine et_neD c ?_
        refine ee_to1 ?_
        refine ee_var c (i := 1) rfl rfl rfl ?_
        refine ⟨_, rfl, ?_⟩
        refine ee_tup ?_
        refine ea_cons ?_
        refine ee_glob c (j := 5) mc.IDENTITY rfl ?_
        refine ea_nil ?_
        refine ⟨Nat.le_of_ble_eq_true rfl, ?_⟩
        obtain ⟨r, hr⟩ := hD.hd
        have e1 : (ms.map dS).take 1 = [dS one] := by rw [hr]; rfl
        rw [e1]
        refine ⟨by simp [pl, pls, dS, dK], by simp [pl, pls, dS, dK], ?_⟩
        refine ⟨fun h4 => ?_, fun h4 => ?_⟩
        · exact absurd rfl h4
        · refine isF ?_
          refine sl_nil ?_
          refine sl_cons (ss_ret ?_)
          refine ee_all c (i := 2) rfl mb.all ?_
          refine ee_lc c [("one", 3)] (G' := ["reduced_by"]) (V' := [3, 0]) (by rw [hsc]; decide +kernel) (by rw [hsc]; decide +kernel) ?_
          refine ei_tup ?_
          refine ee_var c (i := 1) rfl rfl rfl ?_
          refine ⟨_, rfl, ?_⟩
          intro p5
          refine ⟨fun i st => st = ⟨p5, true, .lst ((List.replicate i true).map D.bl)⟩ :: [⟨pS, true, .lst ((ms.map fun m => ((m.1.val : Nat) : Int)).map D.int)⟩, ⟨p2, true, .lst ((ms.map fun m => ((m.1.val : Nat) : Int)).map D.int)⟩, ⟨p1, true, .lst ((List.replicate ms.length true).map D.bl)⟩], rfl, fun _ _ _ _ => trivial, ?_, ?_⟩
          · rintro i d st2 hd rfl Xp5 hX
            obtain ⟨m, hm, rfl⟩ := getMap hd
            have hmm := List.mem_of_getElem? hm
            refine eg_name hX.2 (i := 3) rfl rfl (by decide) (.there (.there (.there .here))) ?_
            intro Xp5 hX
            refine ee_eqD hX.2 ?_
            refine ee_pcall hX.2 (i := 0) f_reduced_by (by decide) rfl ?_
            refine ea_cons ?_
            refine ee_var hX.2 (i := 0) rfl rfl rfl ?_
            refine ea_cons ?_
            refine ee_var hX.2 (i := 3) rfl rfl rfl ?_
            refine ea_nil ?_
            refine ⟨_, ⟨b, m, rfl, hD.nf, fun v hv => (hD.bb v hv).mono (by omega), (hD.bm m hmm).mono (by omega), rfl⟩, rfl, ?_⟩
            rintro _ rfl
            refine ee_var hX.2 (i := 3) rfl rfl rfl ?_
            refine ⟨by first | exact pl_dV _ | exact pl_dS _ | exact pl_dVs _ | exact pl_dG _ | rfl, by first | exact pl_dV _ | exact pl_dS _ | exact pl_dVs _ | exact pl_dG _ | rfl, ?_⟩
            intro b6 hb6
            obtain rfl : b6 = true := hb6.mpr (by rw [hD.rd m hmm])
            refine ⟨_, _, .here, lenRep hd (by rw [List.length_map]; have := hD.len; have := sizeLine_big; omega), ?_⟩
            exact snocTrue _ _
          · rintro st2 rfl
            refine ⟨_, _, rfl, .here, ?_⟩
            rw [allrep]
            exact .pure ⟨rfl, rfl⟩
def W_is_description : Spec := Pu fun ds p => ∃ (n : Nat) (gs : List Sy) (b : List V2) (ms : List Sy), ds = [dD b ms] ∧ n ≤ 40 ∧ DescB n gs b ms ∧ p = fun d => d = .bl true
theorem ok_is_description {f : Addr} {fd : FuncData} (Fu : FunT K "is_description" 49 [] f fd) (mb : MB mg) (mc : MC K mg) (f_are_members : Fn P w K mg base "are_members" 5 2 [] W_are_members) (f_is_basis : Fn P w K mg base "is_basis" 3 1 [] W_is_basis) (f_is_step : Fn P w K mg base "is_step" 4 2 [] W_is_step) (f_holds : Fn P w K mg base "holds" 5 2 [] W_holds) (f_turned : Fn P w K mg base "turned" 1 2 [] W_turned) (f_product_of : Fn P w K mg base "product_of" 3 2 [] W_product_of) : FnOk P w K mg base CX0 6 f fd ["thing"] (spW K 1 W_is_description) := by
  refine fnok_mk (N := ["thing", "basis", "members", "kind", "x", "y", "step", "other"]) (Gs := ["isinstance", "tuple", "len", "is_basis", "are_members", "all"]) (Vi := [0, 1, 2, 3, 4, 5]) Fu ⟨rfl, rfl, rfl, by decide +kernel, rfl, by decide +kernel, by decide +kernel⟩ (by decide +kernel) rfl ?_
  rintro X F want ds R c hsc ⟨rfl, p, ⟨n, gs, b, ms, rfl, hn, hD, rfl⟩, rfl⟩ hl hF
  show SL X F _ [some _, none, none, none, none, none, none, none] _ _ _
  refine sl_cons (ss_if ?_)
  refine ew_pt ?_
  refine ew_or ?_
  refine et_not ?_
  refine et_val ?_
  refine ee_isi c (i := 0) rfl mb.isinstance (j := 1) rfl mb.tuple rfl ?_
  refine ee_var c (i := 0) rfl rfl rfl ?_
  refine ⟨true, rfl, ?_⟩
  refine ⟨_, rfl, ?_⟩
  refine isF ?_
  refine ew_or ?_
  refine et_neI ?_
  refine ee_lenT c (i := 2) rfl mb.len ?_
  refine ee_var c (i := 0) rfl rfl rfl ?_
  refine ⟨_, rfl, ?_⟩
  refine ee_int ?_
  refine ⟨_, _, rfl, rfl, ?_⟩
  refine ⟨fun h1 => ?_, fun h1 => ?_⟩
  · exact absurd rfl h1
  · refine isF ?_
    refine ew_or1 ?_
    refine et_not ?_
    refine et_val ?_
    refine ee_pcall c (i := 3) f_is_basis (by decide) rfl ?_
    refine ea_cons ?_
    refine ee_ixT ?_
    refine ee_var c (i := 0) rfl rfl rfl ?_
    refine ee_int ?_
    refine ⟨_, _, _, rfl, rfl, rfl, ?_⟩
    refine ea_nil ?_
    refine ⟨_, ⟨2 * n + 14, b, rfl, by omega, hD.nf, hD.bb, rfl⟩, rfl, ?_⟩
    rintro _ rfl
    refine ⟨_, rfl, ?_⟩
    refine isF ?_
    refine sl_st (List.nil_sublist _) ?_
    refine sl_nil ?_
    refine sl_cons (ss_asg (vs := [1, 2]) ?_ )
    refine ee_var c (i := 0) rfl rfl rfl ?_
    refine eg_tup c (n := 2) ?_ rfl
    refine egs_cons ?_
    refine eg_name c (i := 1) rfl rfl (by decide) (.there .here) ?_
    refine egs_cons ?_
    refine eg_name c (i := 2) rfl rfl (by decide) (.there (.there .here)) ?_
    refine egs_nil ?_
    refine sl_cons (ss_if ?_)
    refine et_not ?_
    refine et_val ?_
    refine ee_pcall c (i := 4) f_are_members (by decide) rfl ?_
    refine ea_cons ?_
    refine ee_var c (i := 1) rfl rfl rfl ?_
    refine ea_cons ?_
    refine ee_var c (i := 2) rfl rfl rfl ?_
    refine ea_nil ?_
    refine ⟨_, ⟨n, gs, b, ms, rfl, by omega, hD, rfl⟩, rfl, ?_⟩
    rintro _ rfl
    refine ⟨_, rfl, ?_⟩
    refine isF ?_
    refine sl_st (List.nil_sublist _) ?_
    refine sl_nil ?_
    refine sl_cons (ss_for c (vs := [3, 4, 5]) ?_)
    refine ei_tup ?_
    refine ee_var c (i := 2) rfl rfl rfl ?_
    refine ⟨_, rfl, ?_⟩
    refine ⟨fun i en st => ∃ o3 o4 o5, en = [some (dD b ms), some (dVs b), some (dG ms), o3, o4, o5, none, none] ∧ st = [], ⟨none, none, none, rfl, rfl⟩, fun _ _ _ _ _ => trivial, ?_, ?_⟩
    · rintro i d en2 st2 hd ⟨o3, o4, o5, rfl, rfl⟩
      obtain ⟨m, hm, rfl⟩ := getMap hd
      have hmm := List.mem_of_getElem? hm
      refine eg_tup c (n := 3) ?_ rfl
      refine egs_cons ?_
      refine eg_name c (i := 3) rfl rfl (by decide) (.there (.there (.there .here))) ?_
      refine egs_cons ?_
      refine eg_name c (i := 4) rfl rfl (by decide) (.there (.there (.there (.there .here)))) ?_
      refine egs_cons ?_
      refine eg_name c (i := 5) rfl rfl (by decide) (.there (.there (.there (.there (.there .here))))) ?_
      refine egs_nil ?_
      refine sl_cons (ss_if ?_)
      refine et_not ?_
      refine et_val ?_
      refine ee_all c (i := 5) rfl mb.all ?_
      refine ee_lc c [("step", 6)] (G' := ["is_step", "turned"]) (V' := [1, 3, 6]) (by rw [hsc]; decide +kernel) (by rw [hsc]; decide +kernel) ?_
      refine ei_tup ?_
      refine ee_var c (i := 1) rfl rfl rfl ?_
      refine ⟨_, rfl, ?_⟩
      intro p2
      refine ⟨fun i st => st = ⟨p2, true, .lst ((List.replicate i true).map D.bl)⟩ :: [], rfl, fun _ _ _ _ => trivial, ?_, ?_⟩
      · rintro i d st2 hd rfl Xp2 hX
        obtain ⟨v, hv, rfl⟩ := getMap hd
        have hvm := List.mem_of_getElem? hv
        refine eg_name hX.2 (i := 6) rfl rfl (by decide) (.there (.there (.there (.there (.there (.there .here)))))) ?_
        intro Xp2 hX
        refine ee_pcall hX.2 (i := 0) f_is_step (by decide) rfl ?_
        refine ea_cons ?_
        refine ee_var hX.2 (i := 1) rfl rfl rfl ?_
        refine ea_cons ?_
        refine ee_pcall hX.2 (i := 1) f_turned (by decide) rfl ?_
        refine ea_cons ?_
        refine ee_var hX.2 (i := 3) rfl rfl rfl ?_
        refine ea_cons ?_
        refine ee_var hX.2 (i := 6) rfl rfl rfl ?_
        refine ea_nil ?_
        refine ⟨_, ⟨m.1, v, rfl, rfl⟩, rfl, ?_⟩
        rintro _ rfl
        refine ea_nil ?_
        refine ⟨_, ⟨b, lin m.1 v, rfl, hD.nf, fun v hv => (hD.bb v hv).mono (by omega), ((hD.bb v hvm).lin _).mono (by omega), rfl⟩, rfl, ?_⟩
        rintro _ ⟨b3, rfl, hb3⟩
        obtain rfl : b3 = true := hb3.mpr (hD.latk hmm (.mem hvm))
        refine ⟨_, _, .here, lenRep hd (by rw [List.length_map]; have := hD.nf.len; have := sizeLine_big; omega), ?_⟩
        exact snocTrue _ _
      · rintro st2 rfl
        refine ⟨_, _, rfl, .here, ?_⟩
        rw [allrep]
        refine ⟨_, rfl, ?_⟩
        refine isF ?_
        refine sl_st (List.nil_sublist _) ?_
        refine sl_nil ?_
        refine sl_cons (ss_if ?_)
        refine et_not ?_
        refine et_val ?_
        refine ee_all c (i := 5) rfl mb.all ?_
        refine ee_lc c [("other", 7)] (G' := ["holds", "product_of"]) (V' := [0, 7, 3, 4, 5]) (by rw [hsc]; decide +kernel) (by rw [hsc]; decide +kernel) ?_
        refine ei_tup ?_
        refine ee_var c (i := 2) rfl rfl rfl ?_
        refine ⟨_, rfl, ?_⟩
        intro p4
        refine ⟨fun i st => st = ⟨p4, true, .lst ((List.replicate i true).map D.bl)⟩ :: [], rfl, fun _ _ _ _ => trivial, ?_, ?_⟩
        · rintro i d st2 hd rfl Xp4 hX
          obtain ⟨o, ho, rfl⟩ := getMap hd
          have hom := List.mem_of_getElem? ho
          refine eg_name hX.2 (i := 7) rfl rfl (by decide) (.there (.there (.there (.there (.there (.there (.there .here))))))) ?_
          intro Xp4 hX
          refine ee_pcall hX.2 (i := 0) f_holds (by decide) rfl ?_
          refine ea_cons ?_
          refine ee_var hX.2 (i := 0) rfl rfl rfl ?_
          refine ea_cons ?_
          refine ee_pcall hX.2 (i := 1) f_product_of (by decide) rfl ?_
          refine ea_cons ?_
          refine ee_tup ?_
          refine ea_cons ?_
          refine ee_var hX.2 (i := 3) rfl rfl rfl ?_
          refine ea_cons ?_
          refine ee_var hX.2 (i := 4) rfl rfl rfl ?_
          refine ea_cons ?_
          refine ee_var hX.2 (i := 5) rfl rfl rfl ?_
          refine ea_nil ?_
          refine ⟨Nat.le_of_ble_eq_true rfl, ?_⟩
          refine ea_cons ?_
          refine ee_var hX.2 (i := 7) rfl rfl rfl ?_
          refine ea_nil ?_
          refine ⟨_, ⟨m, o, rfl, rfl⟩, rfl, ?_⟩
          rintro _ rfl
          refine ea_nil ?_
          refine ⟨_, ⟨b, ms, mul m o, rfl, hD.nf, fun v hv => (hD.bb v hv).mono (by omega), (BV.mul (hD.bm m hmm) (hD.bm o hom) (Nat.lt_succ_self _) (Nat.lt_succ_self _)).mono (by omega), rfl⟩, rfl, ?_⟩
          rintro _ ⟨b5, rfl, hb5⟩
          obtain rfl : b5 = true := hb5.mpr ((hD.mem _).mp ((hD.ing hmm).mul' (hD.ing hom)))
          refine ⟨_, _, .here, lenRep hd (by rw [List.length_map]; have := hD.len; have := sizeLine_big; omega), ?_⟩
          exact snocTrue _ _
        · rintro st2 rfl
          refine ⟨_, _, rfl, .here, ?_⟩
          rw [allrep]
          refine ⟨_, rfl, ?_⟩
          refine isF ?_
          refine sl_st (List.nil_sublist _) ?_
          refine sl_nil ?_
          refine sl_nil ?_
          exact ⟨_, _, _, rfl, rfl⟩
    · rintro en2 st2 ⟨o3, o4, o5, rfl, rfl⟩
      refine sl_cons (ss_ret ?_)
      refine ee_bl ?_
      exact .pure ⟨rfl, rfl⟩
def W_need_description : Spec := Pu fun ds p => ∃ (n : Nat) (gs : List Sy) (b : List V2) (ms : List Sy), ds = [dD b ms] ∧ n ≤ 40 ∧ DescB n gs b ms ∧ p = fun d => d = .non
theorem ok_need_description {f : Addr} {fd : FuncData} (Fu : FunT K "need_description" 50 [] f fd) (mb : MB mg) (mc : MC K mg) (f_is_description : Fn P w K mg base "is_description" 6 1 [] W_is_description) : FnOk P w K mg base CX0 7 f fd ["thing"] (spW K 1 W_need_description) := by
  refine fnok_mk (N := ["thing"]) (Gs := ["is_description", "DescriptionError"]) (Vi := [0]) Fu ⟨rfl, rfl, rfl, by decide +kernel, rfl, by decide +kernel, by decide +kernel⟩ (by decide +kernel) rfl ?_
  rintro X F want ds R c hsc ⟨rfl, p, ⟨n, gs, b, ms, rfl, hn, hD, rfl⟩, rfl⟩ hl hF
  show SL X F _ [some _] _ _ _
  refine sl_cons (ss_if ?_)
  refine et_not ?_
  refine et_val ?_
  refine ee_pcall c (i := 0) f_is_description (by decide) rfl ?_
  refine ea_cons ?_
  refine ee_var c (i := 0) rfl rfl rfl ?_
  refine ea_nil ?_
  refine ⟨_, ⟨n, gs, b, ms, rfl, hn, hD, rfl⟩, rfl, ?_⟩
  rintro _ rfl
  refine ⟨_, rfl, ?_⟩
  refine isF ?_
  refine sl_nil ?_
  refine sl_nil ?_
  exact .pure ⟨rfl, rfl⟩
def W_generators_of : Spec := Pu fun ds p => ∃ (n : Nat) (gs : List Sy) (b : List V2) (ms : List Sy), ds = [dD b ms] ∧ n ≤ 40 ∧ DescB n gs b ms ∧ p = fun d => ∃ hs, d = dG hs ∧ GB (5 * n + 34) hs ∧ ∀ a, InG hs a ↔ InG gs a
theorem ok_generators_of {f : Addr} {fd : FuncData} (Fu : FunT K "generators_of" 53 [] f fd) (mb : MB mg) (mc : MC K mg) (f_need_description : Fn P w K mg base "need_description" 7 1 [] W_need_description) (f_generators_by : Fn P w K mg base "generators_by" 4 1 [] W_generators_by) : FnOk P w K mg base CX0 8 f fd ["description"] (spW K 1 W_generators_of) := by
  refine fnok_mk (N := ["description"]) (Gs := ["need_description", "generators_by"]) (Vi := [0]) Fu ⟨rfl, rfl, rfl, by decide +kernel, rfl, by decide +kernel, by decide +kernel⟩ (by decide +kernel) rfl ?_
  rintro X F want ds R c hsc ⟨rfl, p, ⟨n, gs, b, ms, rfl, hn, hD, rfl⟩, rfl⟩ hl hF
  show SL X F _ [some _] _ _ _
  refine sl_cons (ss_expr ?_)
  refine ee_pcall c (i := 0) f_need_description (by decide) rfl ?_
  refine ea_cons ?_
  refine ee_var c (i := 0) rfl rfl rfl ?_
  refine ea_nil ?_
  refine ⟨_, ⟨n, gs, b, ms, rfl, hn, hD, rfl⟩, rfl, ?_⟩
  rintro _ rfl
  refine sl_cons (ss_ret ?_)
  refine ee_pcall c (i := 1) f_generators_by (by decide) rfl ?_
  refine ea_cons ?_
  refine ee_var c (i := 0) rfl rfl rfl ?_
  refine ea_nil ?_
  refine ⟨_, ⟨n, gs, b, ms, rfl, hD, rfl⟩, rfl, ?_⟩
  rintro _ ⟨hs, rfl, h1, h2⟩
  exact .pure ⟨⟨hs, rfl, h1, h2⟩, rfl⟩
end G
end
section
set_option Elab.async false
set_option linter.all false
set_option maxRecDepth 100000
set_option maxHeartbeats 4000000
/-! M8: programs and their values. -/
namespace G
open PySem L2
abbrev Ln := List (Nat × Int)
def dF (f : Nat × Int) : D := .tup [.int (f.1 : Nat), .int f.2]
def dL (l : Ln) : D := .tup (l.map dF)
def dP (p : List Ln) : D := .tup (p.map dL)
theorem dF_inj {a b : Nat × Int} (h : dF a = dF b) : a = b := by
  unfold dF at h
  simp only [D.tup.injEq, List.cons.injEq, D.int.injEq, and_true] at h
  exact Prod.ext (by omega) h.2
theorem dL_inj {a b : Ln} (h : dL a = dL b) : a = b := by
  unfold dL at h
  injection h with h
  exact map_inj (fun _ _ => dF_inj) h
theorem dP_inj {a b : List Ln} (h : dP a = dP b) : a = b := by
  unfold dP at h
  injection h with h
  exact map_inj (fun _ _ => dL_inj) h
theorem pl_dL {n : Nat} (l : Ln) : pl (n + 2) (dL l) = true := by
  show pl (n + 1 + 1) (.tup _) = true
  rw [pl_tup]
  exact pls_iff.mpr fun d h => by obtain ⟨v, _, rfl⟩ := List.mem_map.mp h; simp [dF, pl, pls]
theorem pl_dP {n : Nat} (p : List Ln) : pl (n + 3) (dP p) = true := by
  show pl (n + 2 + 1) (.tup _) = true
  rw [pl_tup]
  exact pls_iff.mpr fun d h => by obtain ⟨v, _, rfl⟩ := List.mem_map.mp h; exact pl_dL v
def lineVal (vals : List Sy) (l : Ln) : Sy := l.foldl (fun acc f => mul acc (pw (vals.getD f.1 one) f.2)) one
def runP (gs : List Sy) (p : List Ln) : List Sy := p.foldl (fun vs l => vs ++ [lineVal vs l]) gs
theorem runP_snoc (gs : List Sy) (p : List Ln) (l : Ln) : runP gs (p ++ [l]) = runP gs p ++ [lineVal (runP gs p) l] := by unfold runP; rw [List.foldl_append]; rfl
theorem runP_len (gs : List Sy) (p : List Ln) : (runP gs p).length = gs.length + p.length := by
  unfold runP
  induction p generalizing gs with
  | nil => rfl
  | cons l r ih => rw [List.foldl_cons, ih]; simp; omega
theorem runP_ext (gs : List Sy) : ∀ (p : List Ln), ∃ ext, runP gs p = gs ++ ext := by
  intro p
  unfold runP
  induction p generalizing gs with
  | nil => exact ⟨[], by simp⟩
  | cons l r ih =>
    obtain ⟨e, h⟩ := ih (gs ++ [lineVal gs l])
    exact ⟨[lineVal gs l] ++ e, by rw [List.foldl_cons, h, List.append_assoc]⟩
/-- a factor may be taken -/
def FOk (vals : List Sy) (f : Nat × Int) : Prop := f.1 < vals.length ∧ Bt 100000 f.2 ∧ BV 100000 (vals.getD f.1 one).2
structure PB (gs : List Sy) (p : List Ln) : Prop where
  len : p.length ≤ 4194304
  ll : ∀ l ∈ p, l.length ≤ 1000
  ok : ∀ i l, p[i]? = some l → ∀ f ∈ l, FOk (runP gs (p.take i)) f
theorem PB.nil {gs : List Sy} : PB gs [] := ⟨by decide, fun l h => (nomatch h), fun i l h => by simp at h⟩
theorem PB.snoc {gs : List Sy} {p : List Ln} {l : Ln} (h : PB gs p) (hl : p.length < 4194304) (hll : l.length ≤ 1000) (ho : ∀ f ∈ l, FOk (runP gs p) f) : PB gs (p ++ [l]) := by
  refine ⟨by simp; omega, fun x hx => ?_, fun i x hx f hf => ?_⟩
  · rcases List.mem_append.mp hx with hx | hx
    · exact h.ll x hx
    · simp at hx; subst hx; exact hll
  · by_cases hi : i < p.length
    · rw [List.getElem?_append_left hi] at hx
      rw [List.take_append_of_le_length (by omega)]
      exact h.ok i x hx f hf
    · rw [List.getElem?_append_right (by omega)] at hx
      have : i - p.length = 0 := by
        cases hk : i - p.length with
        | zero => rfl
        | succ k => rw [hk] at hx; simp at hx
      rw [this] at hx
      have e : i = p.length := by omega
      subst e
      simp at hx
      subst hx
      rw [List.take_append_of_le_length (Nat.le_refl _), List.take_length]
      exact ho f hf
def valOf (gs : List Sy) (p : List Ln) : Sy := (runP gs p).getLastD one
theorem valOf_snoc (gs : List Sy) (p : List Ln) (l : Ln) : valOf gs (p ++ [l]) = lineVal (runP gs p) l := by unfold valOf; rw [runP_snoc]; simp
theorem enumGet {xs : List D} {i : Nat} {d : D} (h : (xs.zipIdx.map fun q => D.tup [.int (q.2 : Nat), q.1])[i]? = some d) : ∃ x, xs[i]? = some x ∧ d = .tup [.int (i : Nat), x] := by
  obtain ⟨q, hq, rfl⟩ := getMap h
  rw [List.getElem?_zipIdx] at hq
  cases hx : xs[i]? with
  | none => rw [hx] at hq; cases hq
  | some x =>
    rw [hx] at hq
    simp at hq
    subst hq
    exact ⟨x, rfl, rfl⟩
theorem getD_get {vals : List Sy} {i : Nat} (h : i < vals.length) : vals[i]? = some (vals.getD i one) := by
  rw [List.getD_eq_getElem?_getD, List.getElem?_eq_getElem h]; rfl
theorem atV {vals : List Sy} {n : Nat} (h : n < vals.length) : atI (vals.map dS) ((n : Nat) : Int) = some (dS (vals.getD n one)) := atI_nat (by rw [List.getElem?_map, getD_get h]; rfl)
theorem take_foldl {α β : Type} {f : β → α → β} {b : β} {xs : List α} {i : Nat} {x : α} (h : xs[i]? = some x) : (xs.take (i + 1)).foldl f b = f ((xs.take i).foldl f b) x := by
  rw [takeS h, List.foldl_append]; rfl
theorem runP_take {gs : List Sy} {p : List Ln} {i : Nat} {l : Ln} (h : p[i]? = some l) : runP gs (p.take (i + 1)) = runP gs (p.take i) ++ [lineVal (runP gs (p.take i)) l] := by
  rw [takeS h, runP_snoc]
theorem runP_takelen {gs : List Sy} {p : List Ln} {i : Nat} (h : i ≤ p.length) : (runP gs (p.take i)).length = gs.length + i := by
  rw [runP_len, List.length_take]; omega
theorem atLast {gs : List Sy} {p : List Ln} (h : p ≠ []) : atI ((runP gs p).map dS) (-1) = some (dS (valOf gs p)) := by
  rcases List.eq_nil_or_concat p with rfl | ⟨r, l, e⟩
  · exact absurd rfl h
  · rw [List.concat_eq_append] at e
    subst e
    rw [valOf_snoc, runP_snoc, List.map_append]
    exact atI_last _ _
end G
end
section
set_option Elab.async false
set_option linter.all false
set_option maxRecDepth 100000
set_option maxHeartbeats 4000000
namespace G
open PySem L2
variable {P : Program} {w : World} {K : PySem.W.Frag} {mg : Str → Option Value} {base : Heap}
def W_is_factor : Spec := Pu fun ds p => ∃ (f : Nat × Int) (m : Int), ds = [dF f, .int m] ∧ (f.1 : Int) < m ∧ p = fun d => d = .bl true
theorem ok_is_factor {f : Addr} {fd : FuncData} (Fu : FunT K "is_factor" 55 [] f fd) (mb : MB mg) (mc : MC K mg) (f_is_between : Fn P w K mg base "is_between" 2 3 [] W_is_between) (f_is_integer : Fn P w K mg base "is_integer" 1 1 [] W_is_integer) : FnOk P w K mg base CX0 3 f fd ["thing", "many"] (spW K 2 W_is_factor) := by
  refine fnok_mk (N := ["thing", "many"]) (Gs := ["isinstance", "tuple", "len", "is_between", "is_integer"]) (Vi := [0, 1]) Fu ⟨rfl, rfl, rfl, by decide +kernel, rfl, by decide +kernel, by decide +kernel⟩ (by decide +kernel) rfl ?_
  rintro X F want ds R c hsc ⟨rfl, p, ⟨f, m, rfl, hf, rfl⟩, rfl⟩ hl hF
  show SL X F _ [some _, some _] _ _ _
  refine sl_cons (ss_if ?_)
  refine ew_pt ?_
  refine ew_or ?_
  refine et_not ?_
  refine et_val ?_
  refine ee_isi c (i := 0) rfl mb.isinstance (j := 1) rfl mb.tuple rfl ?_
  refine ee_var c (i := 0) rfl rfl rfl ?_
  refine ⟨true, rfl, ?_⟩
  refine ⟨_, rfl, ?_⟩
  refine isF ?_
  refine ew_or1 ?_
  refine et_neI ?_
  refine ee_lenT c (i := 2) rfl mb.len ?_
  refine ee_var c (i := 0) rfl rfl rfl ?_
  refine ⟨_, rfl, ?_⟩
  refine ee_int ?_
  refine ⟨_, _, rfl, rfl, ?_⟩
  refine ⟨fun h1 => ?_, fun h1 => ?_⟩
  · exact absurd rfl h1
  · refine isF ?_
    refine sl_nil ?_
    refine sl_cons (ss_ret ?_)
    refine ee_and ?_
    refine ee_pcall c (i := 3) f_is_between (by decide) rfl ?_
    refine ea_cons ?_
    refine ee_ixT ?_
    refine ee_var c (i := 0) rfl rfl rfl ?_
    refine ee_int ?_
    refine ⟨_, _, _, rfl, rfl, rfl, ?_⟩
    refine ea_cons ?_
    refine ee_int ?_
    refine ea_cons ?_
    refine ee_sub ?_
    refine ee_var c (i := 1) rfl rfl rfl ?_
    refine ee_int ?_
    refine ⟨_, _, rfl, rfl, ?_⟩
    refine ea_nil ?_
    refine ⟨_, ⟨_, _, _, rfl, by omega, by omega, rfl⟩, rfl, ?_⟩
    rintro _ rfl
    refine ⟨_, rfl, ?_⟩
    refine isT ?_
    refine ee_one ?_
    refine ee_pcall c (i := 4) f_is_integer (by decide) rfl ?_
    refine ea_cons ?_
    refine ee_ixT ?_
    refine ee_var c (i := 0) rfl rfl rfl ?_
    refine ee_int ?_
    refine ⟨_, _, _, rfl, rfl, rfl, ?_⟩
    refine ea_nil ?_
    refine ⟨_, ⟨_, rfl, rfl⟩, rfl, ?_⟩
    rintro _ rfl
    exact .pure ⟨rfl, rfl⟩
def W_is_program : Spec := Pu fun ds p => ∃ (gs : List Sy) (pr : List Ln), ds = [dG gs, dP pr] ∧ PB gs pr ∧ pr ≠ [] ∧ p = fun d => d = .bl true
theorem ok_is_program {f : Addr} {fd : FuncData} (Fu : FunT K "is_program" 56 [] f fd) (mb : MB mg) (mc : MC K mg) (f_is_factor : Fn P w K mg base "is_factor" 3 2 [] W_is_factor) : FnOk P w K mg base CX0 4 f fd ["generators", "thing"] (spW K 2 W_is_program) := by
  refine fnok_mk (N := ["generators", "thing", "index", "line", "factor"]) (Gs := ["isinstance", "tuple", "enumerate", "all"]) (Vi := [0, 1, 2, 3]) Fu ⟨rfl, rfl, rfl, by decide +kernel, rfl, by decide +kernel, by decide +kernel⟩ (by decide +kernel) rfl ?_
  rintro X F want ds R c hsc ⟨rfl, p, ⟨gs, pr, rfl, hP, hne, rfl⟩, rfl⟩ hl hF
  show SL X F _ [some _, some _, none, none, none] _ _ _
  refine sl_cons (ss_if ?_)
  refine ew_pt ?_
  refine ew_or ?_
  refine et_not ?_
  refine et_val ?_
  refine ee_isi c (i := 0) rfl mb.isinstance (j := 1) rfl mb.tuple rfl ?_
  refine ee_var c (i := 1) rfl rfl rfl ?_
  refine ⟨true, rfl, ?_⟩
  refine ⟨_, rfl, ?_⟩
  refine isF ?_
  refine ew_or1 ?_
  refine et_eqD c ?_
  refine ee_var c (i := 1) rfl rfl rfl ?_
  refine ee_tup ?_
  refine ea_nil ?_
  refine ⟨Nat.le_of_ble_eq_true rfl, ?_⟩
  refine ⟨pl_dP _, by simp [pl, pls], ?_⟩
  refine ⟨fun h1 => ?_, fun h1 => ?_⟩
  · unfold dP at h1
    injection h1 with h1
    exact absurd (List.map_eq_nil_iff.mp h1) hne
  · refine isF ?_
    refine sl_nil ?_
    refine sl_cons (ss_for c (vs := [2, 3]) ?_)
    refine ei_enT c (j := 2) rfl mb.enumerate ?_
    refine ee_var c (i := 1) rfl rfl rfl ?_
    refine ⟨_, rfl, ?_⟩
    refine ⟨fun i en st => ∃ o1 o2, en = [some (dG gs), some (dP pr), o1, o2, none] ∧ st = [], ⟨none, none, rfl, rfl⟩, fun _ _ _ _ _ => trivial, ?_, ?_⟩
    · rintro i d en2 st2 hd ⟨o1, o2, rfl, rfl⟩
      obtain ⟨x, hx, rfl⟩ := enumGet hd
      obtain ⟨l, hl0, rfl⟩ := getMap hx
      have hok := hP.ok i l hl0
      have hln := runP_takelen (gs := gs) (p := pr) (Nat.le_of_lt (getLt hl0))
      refine eg_tup c (n := 2) ?_ rfl
      refine egs_cons ?_
      refine eg_name c (i := 2) rfl rfl (by decide) (.there (.there .here)) ?_
      refine egs_cons ?_
      refine eg_name c (i := 3) rfl rfl (by decide) (.there (.there (.there .here))) ?_
      refine egs_nil ?_
      refine sl_cons (ss_if ?_)
      refine et_not ?_
      refine et_val ?_
      refine ee_isi c (i := 0) rfl mb.isinstance (j := 1) rfl mb.tuple rfl ?_
      refine ee_var c (i := 3) rfl rfl rfl ?_
      refine ⟨true, rfl, ?_⟩
      refine ⟨_, rfl, ?_⟩
      refine isF ?_
      refine sl_nil ?_
      refine sl_cons (ss_if ?_)
      refine et_not ?_
      refine et_val ?_
      refine ee_all c (i := 3) rfl mb.all ?_
      refine ee_lc c [("factor", 4)] (G' := ["is_factor", "len"]) (V' := [4, 2, 0]) (by rw [hsc]; decide +kernel) (by rw [hsc]; decide +kernel) ?_
      refine ei_tup ?_
      refine ee_var c (i := 3) rfl rfl rfl ?_
      refine ⟨_, rfl, ?_⟩
      intro p2
      refine ⟨fun i st => st = ⟨p2, true, .lst ((List.replicate i true).map D.bl)⟩ :: [], rfl, fun _ _ _ _ => trivial, ?_, ?_⟩
      · rintro i d st2 hd rfl Xp2 hX
        obtain ⟨f, hf, rfl⟩ := getMap hd
        refine eg_name hX.2 (i := 4) rfl rfl (by decide) (.there (.there (.there (.there .here)))) ?_
        intro Xp2 hX
        refine ee_pcall hX.2 (i := 0) f_is_factor (by decide) rfl ?_
        refine ea_cons ?_
        refine ee_var hX.2 (i := 4) rfl rfl rfl ?_
        refine ea_cons ?_
        refine ee_add ?_
        refine ee_lenT hX.2 (i := 1) rfl mb.len ?_
        refine ee_var hX.2 (i := 0) rfl rfl rfl ?_
        refine ⟨_, rfl, ?_⟩
        refine ee_var hX.2 (i := 2) rfl rfl rfl ?_
        refine ⟨_, _, rfl, rfl, ?_⟩
        refine ea_nil ?_
        refine ⟨_, ⟨f, _, rfl, by have := (hok f (List.mem_of_getElem? hf)).1; rw [hln] at this; rw [List.length_map]; omega, rfl⟩, rfl, ?_⟩
        rintro _ rfl
        refine ⟨_, _, .here, lenRep hd (by rw [List.length_map]; have := hP.ll l (List.mem_of_getElem? hl0); have := sizeLine_big; omega), ?_⟩
        exact snocTrue _ _
      · rintro st2 rfl
        refine ⟨_, _, rfl, .here, ?_⟩
        rw [allrep]
        refine ⟨_, rfl, ?_⟩
        refine isF ?_
        refine sl_st (List.nil_sublist _) ?_
        refine sl_nil ?_
        refine sl_nil ?_
        exact ⟨_, _, rfl, rfl⟩
    · rintro en2 st2 ⟨o1, o2, rfl, rfl⟩
      refine sl_cons (ss_ret ?_)
      refine ee_bl ?_
      exact .pure ⟨rfl, rfl⟩
def W_line_value : Spec := fun want ds R => ∃ (vals : List Sy) (l : Ln) (q : Addr), want = [⟨q, false, .lst (vals.map dS)⟩] ∧ ds = [.ref q, dL l] ∧ (∀ f ∈ l, FOk vals f) ∧ R = fun d st => d = dS (lineVal vals l) ∧ st = []
theorem ok_line_value {f : Addr} {fd : FuncData} (Fu : FunT K "line_value" 57 [] f fd) (mb : MB mg) (mc : MC K mg) (f_product_of : Fn P w K mg base "product_of" 3 2 [] W_product_of) (f_power_of : Fn P w K mg base "power_of" 5 2 [] W_power_of) : FnOk P w K mg base CX0 6 f fd ["values", "line"] (spW K 2 W_line_value) := by
  refine fnok_mk (N := ["values", "line", "found", "reference", "exponent"]) (Gs := ["IDENTITY", "product_of", "power_of"]) (Vi := [0, 1, 2, 3, 4]) Fu ⟨rfl, rfl, rfl, by decide +kernel, rfl, by decide +kernel, by decide +kernel⟩ (by decide +kernel) rfl ?_
  rintro X F want ds R c hsc ⟨vals, l, q, rfl, rfl, hf, rfl⟩ hl hF
  show SL X F _ [some _, some _, none, none, none] _ _ _
  refine sl_cons (ss_set c (i := 2) rfl rfl ?_)
  refine ee_glob c (j := 0) mc.IDENTITY rfl ?_
  refine ⟨_, (.there (.there .here)), ?_⟩
  refine sl_cons (ss_for c (vs := [3, 4]) ?_)
  refine ei_tup ?_
  refine ee_var c (i := 1) rfl rfl rfl ?_
  refine ⟨_, rfl, ?_⟩
  refine ⟨fun i en st => ∃ o3 o4, en = [some (.ref q), some (dL l), some (dS ((l.take i).foldl (fun acc f => mul acc (pw (vals.getD f.1 one) f.2)) one)), o3, o4] ∧ st = [⟨q, false, .lst (vals.map dS)⟩], ⟨none, none, rfl, rfl⟩, fun _ _ _ _ _ => trivial, ?_, ?_⟩
  · rintro i d en2 st2 hd ⟨o3, o4, rfl, rfl⟩
    obtain ⟨f, hfi, rfl⟩ := getMap hd
    obtain ⟨h1, h2, h3⟩ := hf f (List.mem_of_getElem? hfi)
    refine eg_tup c (n := 2) ?_ rfl
    refine egs_cons ?_
    refine eg_name c (i := 3) rfl rfl (by decide) (.there (.there (.there .here))) ?_
    refine egs_cons ?_
    refine eg_name c (i := 4) rfl rfl (by decide) (.there (.there (.there (.there .here)))) ?_
    refine egs_nil ?_
    refine sl_cons (ss_set c (i := 2) rfl rfl ?_)
    refine ee_pcall c (i := 1) f_product_of (by decide) rfl ?_
    refine ea_cons ?_
    refine ee_var c (i := 2) rfl rfl rfl ?_
    refine ea_cons ?_
    refine ee_pcall c (i := 2) f_power_of (by decide) rfl ?_
    refine ea_cons ?_
    refine ee_ixL ?_
    refine ee_var c (i := 0) rfl rfl rfl ?_
    refine ee_var c (i := 3) rfl rfl rfl ?_
    refine ⟨_, _, _, dS (vals.getD f.1 one), rfl, .here, rfl, atV h1, ?_⟩
    refine ea_cons ?_
    refine ee_var c (i := 4) rfl rfl rfl ?_
    refine ea_nil ?_
    refine ⟨_, ⟨vals.getD f.1 one, f.2, rfl, h3, h2, rfl⟩, rfl, ?_⟩
    rintro _ rfl
    refine ea_nil ?_
    refine ⟨_, ⟨_, pw (vals.getD f.1 one) f.2, rfl, rfl⟩, rfl, ?_⟩
    rintro _ rfl
    refine ⟨_, (.there (.there .here)), ?_⟩
    refine sl_nil ?_
    exact ⟨_, _, by rw [take_foldl hfi], rfl⟩
  · rintro en2 st2 ⟨o3, o4, rfl, rfl⟩
    rw [List.length_map, List.take_length]
    refine sl_cons (ss_ret ?_)
    refine ee_var c (i := 2) rfl rfl rfl ?_
    exact .pure ⟨rfl, rfl⟩
def W_value_of : Spec := Pu fun ds p => ∃ (gs : List Sy) (pr : List Ln), ds = [dG gs, dP pr] ∧ gs.length ≤ 6 ∧ PB gs pr ∧ pr ≠ [] ∧ p = fun d => d = dS (valOf gs pr)
theorem ok_value_of {f : Addr} {fd : FuncData} (Fu : FunT K "value_of" 58 [] f fd) (mb : MB mg) (mc : MC K mg) (f_line_value : Fn P w K mg base "line_value" 6 2 [] W_line_value) : FnOk P w K mg base CX0 7 f fd ["generators", "program"] (spW K 2 W_value_of) := by
  refine fnok_mk (N := ["generators", "program", "values", "line"]) (Gs := ["list", "line_value"]) (Vi := [0, 1, 2, 3]) Fu ⟨rfl, rfl, rfl, by decide +kernel, rfl, by decide +kernel, by decide +kernel⟩ (by decide +kernel) rfl ?_
  rintro X F want ds R c hsc ⟨rfl, p, ⟨gs, pr, rfl, hg, hP, hne, rfl⟩, rfl⟩ hl hF
  show SL X F _ [some _, some _, none, none] _ _ _
  refine sl_cons (ss_set c (i := 2) rfl rfl ?_)
  refine ee_listT c (i := 0) rfl mb.list ?_
  refine ee_var c (i := 0) rfl rfl rfl ?_
  refine ⟨_, rfl, fun p1 => ?_⟩
  refine ⟨_, (.there (.there .here)), ?_⟩
  refine sl_cons (ss_for c (vs := [3]) ?_)
  refine ei_tup ?_
  refine ee_var c (i := 1) rfl rfl rfl ?_
  refine ⟨_, rfl, ?_⟩
  refine ⟨fun i en st => ∃ o3, en = [some (dG gs), some (dP pr), some (.ref p1), o3] ∧ st = [⟨p1, true, .lst ((runP gs (pr.take i)).map dS)⟩], ⟨none, rfl, rfl⟩, fun _ _ _ _ _ => trivial, ?_, ?_⟩
  · rintro i d en2 st2 hd ⟨o3, rfl, rfl⟩
    obtain ⟨l, hl0, rfl⟩ := getMap hd
    have hok := hP.ok i l hl0
    have hi := getLt hl0
    have hln := runP_takelen (gs := gs) (p := pr) (Nat.le_of_lt hi)
    refine eg_name c (i := 3) rfl rfl (by decide) (.there (.there (.there .here))) ?_
    refine sl_cons (ss_expr ?_)
    refine ee_append ?_
    refine ee_var c (i := 2) rfl rfl rfl ?_
    refine ⟨_, _, rfl, .here, ?_⟩
    refine ee_call c (i := 1) f_line_value (by decide) rfl ?_
    refine ea_cons ?_
    refine ee_var c (i := 2) rfl rfl rfl ?_
    refine ea_cons ?_
    refine ee_var c (i := 3) rfl rfl rfl ?_
    refine ea_nil ?_
    refine ⟨_, _, _, .rd .here (.nil _), ⟨_, l, _, rfl, rfl, hok, rfl⟩, rfl, ?_⟩
    rintro _ _ ⟨rfl, rfl⟩
    refine ⟨_, _, .here, by rw [List.length_map, hln]; have := hP.len; have := sizeLine_big; omega, ?_⟩
    refine sl_nil ?_
    exact ⟨_, rfl, by rw [runP_take hl0, List.map_append]; rfl⟩
  · rintro en2 st2 ⟨o3, rfl, rfl⟩
    rw [List.length_map, List.take_length]
    refine sl_cons (ss_ret ?_)
    refine ee_ixL ?_
    refine ee_var c (i := 2) rfl rfl rfl ?_
    refine ee_neg ?_
    refine ee_int ?_
    refine ⟨_, rfl, ?_⟩
    refine ⟨_, _, _, dS (valOf gs pr), rfl, .here, rfl, atLast hne, ?_⟩
    exact .pure ⟨rfl, rfl⟩
def W_run_program : Spec := Pu fun ds p => ∃ (gs : List Sy) (pr : List Ln), ds = [dG gs, dP pr] ∧ gs.length ≤ 6 ∧ PB gs pr ∧ pr ≠ [] ∧ p = fun d => d = dS (valOf gs pr)
theorem ok_run_program {f : Addr} {fd : FuncData} (Fu : FunT K "run_program" 59 [] f fd) (mb : MB mg) (mc : MC K mg) (f_need_generators : Fn P w K mg base "need_generators" 5 1 [] W_need_generators) (f_value_of : Fn P w K mg base "value_of" 7 2 [] W_value_of) (f_is_program : Fn P w K mg base "is_program" 4 2 [] W_is_program) : FnOk P w K mg base CX0 8 f fd ["generators", "program"] (spW K 2 W_run_program) := by
  refine fnok_mk (N := ["generators", "program"]) (Gs := ["need_generators", "is_program", "ProgramError", "value_of"]) (Vi := [0, 1]) Fu ⟨rfl, rfl, rfl, by decide +kernel, rfl, by decide +kernel, by decide +kernel⟩ (by decide +kernel) rfl ?_
  rintro X F want ds R c hsc ⟨rfl, p, ⟨gs, pr, rfl, hg, hP, hne, rfl⟩, rfl⟩ hl hF
  show SL X F _ [some _, some _] _ _ _
  refine sl_cons (ss_expr ?_)
  refine ee_pcall c (i := 0) f_need_generators (by decide) rfl ?_
  refine ea_cons ?_
  refine ee_var c (i := 0) rfl rfl rfl ?_
  refine ea_nil ?_
  refine ⟨_, ⟨_, rfl, hg, rfl⟩, rfl, ?_⟩
  rintro _ rfl
  refine sl_cons (ss_if ?_)
  refine et_not ?_
  refine et_val ?_
  refine ee_pcall c (i := 1) f_is_program (by decide) rfl ?_
  refine ea_cons ?_
  refine ee_var c (i := 0) rfl rfl rfl ?_
  refine ea_cons ?_
  refine ee_var c (i := 1) rfl rfl rfl ?_
  refine ea_nil ?_
  refine ⟨_, ⟨gs, pr, rfl, hP, hne, rfl⟩, rfl, ?_⟩
  rintro _ rfl
  refine ⟨_, rfl, ?_⟩
  refine isF ?_
  refine sl_nil ?_
  refine sl_cons (ss_ret ?_)
  refine ee_pcall c (i := 3) f_value_of (by decide) rfl ?_
  refine ea_cons ?_
  refine ee_var c (i := 0) rfl rfl rfl ?_
  refine ea_cons ?_
  refine ee_var c (i := 1) rfl rfl rfl ?_
  refine ea_nil ?_
  refine ⟨_, ⟨gs, pr, rfl, hg, hP, hne, rfl⟩, rfl, ?_⟩
  rintro _ rfl
  exact .pure ⟨rfl, rfl⟩
end G
end
section
set_option Elab.async false
set_option linter.all false
set_option maxRecDepth 100000
set_option maxHeartbeats 4000000
/-! M9: orbits. -/
namespace G
open PySem L2
def Orb (gs : List Sy) (p q : V2) : Prop := ∃ g, InG gs g ∧ img g p = q
theorem Orb.refl {gs : List Sy} (p : V2) : Orb gs p p := ⟨one, .one, img_one p⟩
theorem Orb.symm {gs : List Sy} {p q : V2} (h : Orb gs p q) : Orb gs q p := by
  obtain ⟨g, hg, rfl⟩ := h
  exact ⟨inv g, hg.inv', img_inv g p⟩
theorem Orb.trans {gs : List Sy} {p q r : V2} (h : Orb gs p q) (k : Orb gs q r) : Orb gs p r := by
  obtain ⟨g, hg, rfl⟩ := h
  obtain ⟨a, ha, rfl⟩ := k
  exact ⟨mul g a, hg.mul' ha, img_mul g a p⟩
theorem img_shift (l p : V2) : img (0, l) p = vadd p l := by show vadd (lin 0 p) l = _; rw [lin_one]
theorem orb_shift {gs : List Sy} {p q : V2} (h : InG gs (0, vsub p q)) : Orb gs q p := ⟨_, h, by rw [img_shift]; refine v2_ext ?_ ?_ <;> simp only [vadd, vsub] <;> omega⟩
theorem Orb.congr {gs hs : List Sy} (h : ∀ a, InG hs a ↔ InG gs a) {p q : V2} : Orb hs p q ↔ Orb gs p q := ⟨fun ⟨g, a, b⟩ => ⟨g, (h g).mp a, b⟩, fun ⟨g, a, b⟩ => ⟨g, (h g).mpr a, b⟩⟩
/-- squares that stand for an orbit -/
structure OrbSq (gs : List Sy) (p : V2) (sq : List V2) : Prop where
  i : ∀ v ∈ sq, Orb gs p v
  o : ∀ q, Orb gs p q → ∃ v ∈ sq, InG gs (0, vsub q v)
theorem OrbSq.congr {gs hs : List Sy} (h : ∀ a, InG hs a ↔ InG gs a) {p : V2} {sq : List V2} (k : OrbSq gs p sq) : OrbSq hs p sq :=
  ⟨fun v hv => (Orb.congr h).mpr (k.i v hv), fun q hq => by obtain ⟨v, hv, g⟩ := k.o q ((Orb.congr h).mp hq); exact ⟨v, hv, (h _).mpr g⟩⟩
theorem OrbSq.rev {gs : List Sy} {p : V2} {sq : List V2} (k : OrbSq gs p sq) : OrbSq gs p sq.reverse :=
  ⟨fun v hv => k.i v (List.mem_reverse.mp hv), fun q hq => by obtain ⟨v, hv, g⟩ := k.o q hq; exact ⟨v, List.mem_reverse.mpr hv, g⟩⟩
/-- what holds of a list of reduced images -/
def lV (v : V2) : List Int := [v.1, v.2]
theorem map_dV_tI (vs : List V2) : vs.map dV = (vs.map lV).map tI := by rw [List.map_map]; rfl
theorem lV_inj (v w : V2) (h : lV v = lV w) : v = w := by
  simp only [lV, List.cons.injEq, and_true] at h
  exact Prod.ext h.1 h.2
theorem set_back {xs : List V2} {nss : List (List Int)} (h : ∀ ns, ns ∈ nss ↔ ns ∈ xs.map lV) : ∃ vs : List V2, nss = vs.map lV ∧ ∀ v, v ∈ vs ↔ v ∈ xs := by
  obtain ⟨vs, e, hv⟩ := perm_map (f := lV) (zs := nss) (xs := xs) fun z hz => by
    obtain ⟨x, hx, e⟩ := List.mem_map.mp ((h z).mp hz)
    exact ⟨x, hx, e⟩
  subst e
  refine ⟨vs, rfl, fun v => ⟨hv v, fun hx => ?_⟩⟩
  obtain ⟨y, hy, e⟩ := List.mem_map.mp ((h (lV v)).mpr (List.mem_map.mpr ⟨v, hx, rfl⟩))
  exact lV_inj _ _ e ▸ hy
def imgs (b : List V2) (ms : List Sy) (p : V2) : List V2 := ms.map fun m => red b (img m p)
theorem red_img {gs : List Sy} {b : List V2} {ms : List Sy} (h : IsDesc gs b ms) (g : Sy) (p : V2) : red b (img (redS b g) p) = red b (img g p) := by
  rw [red_iff h.nf]
  obtain ⟨u, hu, e⟩ := red_mem b g.2
  have e2 : vsub (img (redS b g) p) (img g p) = vneg u := by
    have a1 := congrArg Prod.fst e
    have a2 := congrArg Prod.snd e
    refine v2_ext ?_ ?_ <;> simp only [img, redS, vsub, vadd, vneg] at * <;> omega
  rw [e2]; exact hu.neg
theorem mem_imgs {gs : List Sy} {b : List V2} {ms : List Sy} (h : IsDesc gs b ms) {p v : V2} : v ∈ imgs b ms p ↔ ∃ g, InG gs g ∧ v = red b (img g p) := by
  unfold imgs
  rw [List.mem_map]
  constructor
  · rintro ⟨m, hm, rfl⟩; exact ⟨m, h.ing hm, rfl⟩
  · rintro ⟨g, hg, rfl⟩; exact ⟨redS b g, (h.mem g).mp hg, red_img h g p⟩
theorem red_orb {gs : List Sy} {b : List V2} {ms : List Sy} (h : IsDesc gs b ms) (v : V2) : InG gs (0, vsub v (red b v)) ∧ InG gs (0, vsub (red b v) v) := by
  have : red b v = red b (red b v) := (red_red h.nf v).symm
  exact ⟨h.lat.mpr ((red_iff h.nf).mp this), h.lat.mpr ((red_iff h.nf).mp this.symm)⟩
theorem imgs_orb {gs : List Sy} {b : List V2} {ms : List Sy} (h : IsDesc gs b ms) {p : V2} {vs : List V2} (hv : ∀ v, v ∈ vs ↔ v ∈ imgs b ms p) : OrbSq gs p vs := by
  refine ⟨fun v hm => ?_, fun q hq => ?_⟩
  · obtain ⟨g, hg, rfl⟩ := (mem_imgs h).mp ((hv v).mp hm)
    exact Orb.trans ⟨g, hg, rfl⟩ (orb_shift (red_orb h _).2)
  · obtain ⟨g, hg, rfl⟩ := hq
    exact ⟨_, (hv _).mpr ((mem_imgs h).mpr ⟨g, hg, rfl⟩), (red_orb h _).1⟩
theorem held_iff {gs : List Sy} {b : List V2} {ms : List Sy} (h : IsDesc gs b ms) {p q : V2} {sq vs : List V2} (k : OrbSq gs p sq) (hv : ∀ v, v ∈ vs ↔ v ∈ sq.map (red b)) : red b q ∈ vs ↔ Orb gs p q := by
  rw [hv, List.mem_map]
  constructor
  · rintro ⟨s, hs, e⟩
    have := h.lat.mpr ((red_iff h.nf).mp e.symm)
    exact (k.i s hs).trans (orb_shift this)
  · intro ho
    obtain ⟨v, hv', g⟩ := k.o q ho
    exact ⟨v, hv', ((red_iff h.nf).mpr (h.lat.mp g)).symm⟩
theorem held_cl {gs : List Sy} {b : List V2} {ms : List Sy} (h : IsDesc gs b ms) {p : V2} {sq vs : List V2} (k : OrbSq gs p sq) (hv : ∀ v, v ∈ vs ↔ v ∈ sq.map (red b)) {g : Sy} (hg : g ∈ gs) {v : V2} (hm : v ∈ vs) : red b (img g v) ∈ vs := by
  rw [held_iff h k hv]
  have hr : red b v = v := by
    obtain ⟨s, _, rfl⟩ := List.mem_map.mp ((hv v).mp hm)
    exact red_red h.nf s
  have ho : Orb gs p v := (held_iff h k hv).mp (by rw [hr]; exact hm)
  exact ho.trans ⟨g, .gen hg, rfl⟩
/-! ### representatives -/
def lexle (v w : V2) : Prop := v.1 < w.1 ∨ (v.1 = w.1 ∧ v.2 ≤ w.2)
theorem lle_lex {v w : V2} (h : lle (lV v) (lV w)) : lexle v w := by
  simp only [lV, lle] at h
  unfold lexle
  omega
theorem lexle_antisymm {v w : V2} (h : lexle v w) (g : lexle w v) : v = w := by
  unfold lexle at *
  exact v2_ext (by omega) (by omega)
structure IsRep (gs : List Sy) (p v : V2) : Prop where
  ex : ∃ b ms, IsDesc gs b ms ∧ (∃ g, InG gs g ∧ v = red b (img g p)) ∧ ∀ g, InG gs g → lexle v (red b (img g p))
theorem desc_uniq {gs : List Sy} {b c : List V2} {ms ns : List Sy} (h : IsDesc gs b ms) (k : IsDesc gs c ns) : b = c := h.nf.uniq k.nf fun u => by rw [← h.lat, ← k.lat]
theorem IsRep.iff {gs : List Sy} {p q v w : V2} (h : IsRep gs p v) (k : IsRep gs q w) : v = w ↔ Orb gs p q := by
  obtain ⟨b, ms, hd, ⟨g, hg, e1⟩, hmin⟩ := h.ex
  obtain ⟨c, ns, kd, ⟨a, ha, e2⟩, kmin⟩ := k.ex
  obtain rfl := desc_uniq hd kd
  constructor
  · rintro rfl
    rw [e1] at e2
    have := hd.lat.mpr ((red_iff hd.nf).mp e2.symm)
    have o1 : Orb gs p (img g p) := ⟨g, hg, rfl⟩
    have o2 : Orb gs q (img a q) := ⟨a, ha, rfl⟩
    exact (o1.trans (orb_shift this)).trans o2.symm
  · rintro ⟨x, hx, rfl⟩
    have f1 : img a (img x p) = img (mul x a) p := (img_mul x a p).symm
    have f2 : img g p = img (mul (inv x) g) (img x p) := by rw [img_mul, img_inv]
    refine lexle_antisymm ?_ ?_
    · rw [e2, f1]; exact hmin _ (hx.mul' ha)
    · rw [e1, f2]; exact kmin _ (hx.inv'.mul' hg)
theorem rep_of {gs : List Sy} {b : List V2} {ms : List Sy} (h : IsDesc gs b ms) {p : V2} {vs : List V2} (hv : ∀ v, v ∈ vs ↔ v ∈ imgs b ms p) (hs : (vs.map lV).Pairwise lle) : ∃ v r, vs = v :: r ∧ IsRep gs p v := by
  have ho : red b (img one p) ∈ vs := (hv _).mpr ((mem_imgs h).mpr ⟨one, .one, rfl⟩)
  cases vs with
  | nil => cases ho
  | cons v r =>
    refine ⟨v, r, rfl, ⟨b, ms, h, (mem_imgs h).mp ((hv v).mp List.mem_cons_self), fun g hg => ?_⟩⟩
    have hm := (hv _).mpr ((mem_imgs h).mpr ⟨g, hg, rfl⟩)
    rcases List.mem_cons.mp hm with e | hm
    · rw [e]; right; exact ⟨rfl, Int.le_refl _⟩
    · rw [List.map_cons, List.pairwise_cons] at hs
      exact lle_lex (hs.1 _ (List.mem_map.mpr ⟨_, hm, rfl⟩))
/-! ### carrying -/
structure CA (gs : List Sy) (n : Nat) (p q : V2) (ms : List Sy) (i : Nat) (fs : List Sy) (b : List V2) : Prop where
  len : fs.length ≤ i
  ok : ∀ f ∈ fs, InG gs f ∧ img f p = q ∧ BV n f.2
  no : fs = [] → ∀ m ∈ ms.take i, ¬ Sp b (vsub q (img m p))
theorem CA.init {gs : List Sy} {n : Nat} {p q : V2} {ms : List Sy} {b : List V2} : CA gs n p q ms 0 [] b := ⟨Nat.le_refl _, fun f hf => (nomatch hf), fun _ m hm => by rw [List.take_zero] at hm; cases hm⟩
theorem CA.skip {gs : List Sy} {n : Nat} {p q : V2} {ms fs : List Sy} {b : List V2} {i : Nat} {m : Sy} (h : CA gs n p q ms i fs b) (hm : ms[i]? = some m) (hn : ¬ Sp b (vsub q (img m p))) : CA gs n p q ms (i + 1) fs b :=
  ⟨Nat.le_succ_of_le h.len, h.ok, fun e x hx => by
    rw [takeS hm, List.mem_append] at hx
    rcases hx with hx | hx
    · exact h.no e x hx
    · simp at hx; subst hx; exact hn⟩
theorem CA.new {gs : List Sy} {n : Nat} {p q : V2} {ms fs : List Sy} {b : List V2} {i : Nat} {m : Sy} (h : CA gs n p q ms i fs b) (hd : IsDesc gs b ms) (hm : ms[i]? = some m) (hn : Sp b (vsub q (img m p))) (hb : BV n (vadd m.2 (vsub q (img m p)))) :
    CA gs n p q ms (i + 1) (fs ++ [(m.1, vadd m.2 (vsub q (img m p)))]) b := by
  refine ⟨by have := h.len; simp; omega, fun f hf => ?_, fun e => by simp at e⟩
  rcases List.mem_append.mp hf with hf | hf
  · exact h.ok f hf
  · simp at hf; subst hf
    refine ⟨?_, ?_, hb⟩
    · have := (hd.ing (List.mem_of_getElem? hm)).mul' (hd.lat.mpr hn)
      rwa [shift_mul] at this
    · refine v2_ext ?_ ?_ <;> simp only [img, vadd, vsub] <;> omega
theorem CA.none {gs : List Sy} {n : Nat} {p q : V2} {ms : List Sy} {b : List V2} (h : CA gs n p q ms ms.length [] b) (hd : IsDesc gs b ms) : ¬ Orb gs p q := by
  rintro ⟨g, hg, rfl⟩
  refine h.no rfl (redS b g) (by rw [List.take_length]; exact (hd.mem g).mp hg) ?_
  exact (red_iff hd.nf).mp (red_img hd g p).symm
end G
end
section
set_option Elab.async false
set_option linter.all false
set_option maxRecDepth 100000
set_option maxHeartbeats 4000000
namespace G
open PySem L2
variable {P : Program} {w : World} {K : PySem.W.Frag} {mg : Str → Option Value} {base : Heap}
def W_difference_of : Spec := Pu fun ds p => ∃ v w : V2, ds = [dV v, dV w] ∧ p = fun d => d = dV (vsub v w)
theorem ok_difference_of {f : Addr} {fd : FuncData} (Fu : FunT K "difference_of" 65 [] f fd) (mb : MB mg) (mc : MC K mg) (f_added : Fn P w K mg base "added" 1 3 [.int 1] W_added) (f_added3 : Fn P w K mg base "added" 1 3 [] W_added) : FnOk P w K mg base CX0 2 f fd ["goal", "square"] (spW K 2 W_difference_of) := by
  refine fnok_mk (N := ["goal", "square"]) (Gs := ["added"]) (Vi := [0, 1]) Fu ⟨rfl, rfl, rfl, by decide +kernel, rfl, by decide +kernel, by decide +kernel⟩ (by decide +kernel) rfl ?_
  rintro X F want ds R c hsc ⟨rfl, p, ⟨v, w, rfl, rfl⟩, rfl⟩ hl hF
  show SL X F _ [some _, some _] _ _ _
  refine sl_cons (ss_ret ?_)
  refine ee_pcall c (i := 0) f_added3 (by decide) rfl ?_
  refine ea_cons ?_
  refine ee_var c (i := 0) rfl rfl rfl ?_
  refine ea_cons ?_
  refine ee_var c (i := 1) rfl rfl rfl ?_
  refine ea_cons ?_
  refine ee_neg ?_
  refine ee_int ?_
  refine ⟨_, rfl, ?_⟩
  refine ea_nil ?_
  refine ⟨_, ⟨v, w, -1, rfl, mulS1 (by decide), mulS1 (by decide), rfl⟩, rfl, ?_⟩
  rintro _ rfl
  exact .pure ⟨congrArg dV (by refine v2_ext ?_ ?_ <;> simp only [vadd, smul, vsub] <;> omega), rfl⟩
def W_images_of : Spec := fun want ds R => ∃ (n : Nat) (gs : List Sy) (b : List V2) (ms : List Sy) (q : V2), want = [] ∧ ds = [dD b ms, dV q] ∧ n ≤ 90 ∧ DescB n gs b ms ∧ BV 5000 q ∧ R = fun d st => ∃ (p : Addr) (vs : List V2), d = .ref p ∧ st = [⟨p, true, .lst (vs.map dV)⟩] ∧ (∀ v, v ∈ vs ↔ v ∈ imgs b ms q) ∧ (vs.map lV).Pairwise lle ∧ vs.length < 64
theorem ok_images_of {f : Addr} {fd : FuncData} (Fu : FunT K "images_of" 66 [] f fd) (mb : MB mg) (mc : MC K mg) (f_reduced : Fn P w K mg base "reduced" 3 2 [] W_reduced) (f_image_of : Fn P w K mg base "image_of" 2 2 [] W_image_of) : FnOk P w K mg base CX0 4 f fd ["description", "square"] (spW K 2 W_images_of) := by
  refine fnok_mk (N := ["description", "square", "basis", "members", "member"]) (Gs := ["sorted", "set"]) (Vi := [0, 1, 2, 3]) Fu ⟨rfl, rfl, rfl, by decide +kernel, rfl, by decide +kernel, by decide +kernel⟩ (by decide +kernel) rfl ?_
  rintro X F want ds R c hsc ⟨n, gs, b, ms, q, rfl, rfl, hn, hD, hq, rfl⟩ hl hF
  show SL X F _ [some _, some _, none, none, none] _ _ _
  refine sl_cons (ss_asg (vs := [2, 3]) ?_ )
  refine ee_var c (i := 0) rfl rfl rfl ?_
  refine eg_tup c (n := 2) ?_ rfl
  refine egs_cons ?_
  refine eg_name c (i := 2) rfl rfl (by decide) (.there (.there .here)) ?_
  refine egs_cons ?_
  refine eg_name c (i := 3) rfl rfl (by decide) (.there (.there (.there .here))) ?_
  refine egs_nil ?_
  refine sl_cons (ss_ret ?_)
  refine ee_sortSetT c (i := 0) rfl mb.sorted (j := 1) rfl mb.set ?_
  refine ee_lc c [("member", 4)] (G' := ["reduced", "image_of"]) (V' := [2, 4, 1]) (by rw [hsc]; decide +kernel) (by rw [hsc]; decide +kernel) ?_
  refine ei_tup ?_
  refine ee_var c (i := 3) rfl rfl rfl ?_
  refine ⟨_, rfl, ?_⟩
  intro p1
  refine ⟨fun i st => st = [⟨p1, true, .lst (((ms.take i).map fun m => red b (img m q)).map dV)⟩], rfl, fun _ _ _ _ => trivial, ?_, ?_⟩
  · rintro i d st2 hd rfl Xp1 hX
    obtain ⟨m, hm, rfl⟩ := getMap hd
    have hmm := List.mem_of_getElem? hm
    refine eg_name hX.2 (i := 4) rfl rfl (by decide) (.there (.there (.there (.there .here)))) ?_
    intro Xp1 hX
    refine ee_pcall hX.2 (i := 0) f_reduced (by decide) rfl ?_
    refine ea_cons ?_
    refine ee_var hX.2 (i := 2) rfl rfl rfl ?_
    refine ea_cons ?_
    refine ee_pcall hX.2 (i := 1) f_image_of (by decide) rfl ?_
    refine ea_cons ?_
    refine ee_var hX.2 (i := 4) rfl rfl rfl ?_
    refine ea_cons ?_
    refine ee_var hX.2 (i := 1) rfl rfl rfl ?_
    refine ea_nil ?_
    refine ⟨_, ⟨m, q, rfl, rfl⟩, rfl, ?_⟩
    rintro _ rfl
    refine ea_nil ?_
    refine ⟨_, ⟨b, img m q, rfl, hD.nf, fun v hv => (hD.bb v hv).mono (by omega), (BV.img (hD.bm m hmm) hq (k := 6000) (by omega) (by omega)).mono (by omega), rfl⟩, rfl, ?_⟩
    rintro _ rfl
    refine ⟨_, _, .here, by rw [List.map_map]; exact lenTake hm (by have := hD.len; have := sizeLine_big; omega), ?_⟩
    show _ = _
    rw [takeS hm, List.map_append, List.map_append]; rfl
  · rintro st2 rfl
    rw [List.length_map, List.take_length, map_dV_tI]
    refine ⟨_, (imgs b ms q).map lV, 2, rfl, .here, by unfold imgs; rw [List.length_map, List.length_map]; have := hD.len; omega, by decide, fun ns hns => by obtain ⟨v, _, rfl⟩ := List.mem_map.mp hns; rfl, fun pS nss hnd hmem hs hl64 => ?_⟩
    obtain ⟨vs, rfl, hvs⟩ := set_back hmem
    rw [← map_dV_tI]
    exact ⟨_, .cons_cons _ (List.nil_sublist _), fun e he => by simp at he; rw [he], pS, vs, rfl, rfl, hvs, hs, by rw [List.length_map] at hl64; exact hl64⟩
def W_representative_by : Spec := Pu fun ds p => ∃ (n : Nat) (gs : List Sy) (b : List V2) (ms : List Sy) (q : V2), ds = [dD b ms, dV q] ∧ n ≤ 90 ∧ DescB n gs b ms ∧ BV 5000 q ∧ p = fun d => ∃ v, d = dV v ∧ IsRep gs q v
theorem ok_representative_by {f : Addr} {fd : FuncData} (Fu : FunT K "representative_by" 67 [] f fd) (mb : MB mg) (mc : MC K mg) (f_images_of : Fn P w K mg base "images_of" 4 2 [] W_images_of) : FnOk P w K mg base CX0 5 f fd ["description", "square"] (spW K 2 W_representative_by) := by
  refine fnok_mk (N := ["description", "square"]) (Gs := ["images_of"]) (Vi := [0, 1]) Fu ⟨rfl, rfl, rfl, by decide +kernel, rfl, by decide +kernel, by decide +kernel⟩ (by decide +kernel) rfl ?_
  rintro X F want ds R c hsc ⟨rfl, p, ⟨n, gs, b, ms, q, rfl, hn, hD, hq, rfl⟩, rfl⟩ hl hF
  show SL X F _ [some _, some _] _ _ _
  refine sl_cons (ss_ret ?_)
  refine ee_ixL ?_
  refine ee_call c (i := 0) f_images_of (by decide) rfl ?_
  refine ea_cons ?_
  refine ee_var c (i := 0) rfl rfl rfl ?_
  refine ea_cons ?_
  refine ee_var c (i := 1) rfl rfl rfl ?_
  refine ea_nil ?_
  refine ⟨[], _, _, .nil _, ⟨n, gs, b, ms, q, rfl, rfl, hn, hD, hq, rfl⟩, rfl, ?_⟩
  rintro _ _ ⟨pI, vs, rfl, rfl, hvm, hvs, hvl⟩
  obtain ⟨v, r, rfl, hR⟩ := rep_of hD.toIsDesc hvm hvs
  refine ee_int ?_
  refine ⟨_, _, _, dV v, rfl, .here, rfl, atI_nat (j := 0) rfl, ?_⟩
  exact .pure ⟨⟨v, rfl, hR⟩, rfl⟩
def W_representative : Spec := Pu fun ds p => ∃ (n : Nat) (gs : List Sy) (q : V2), ds = [dG gs, dV q] ∧ n ≤ 90 ∧ GB n gs ∧ BV 5000 q ∧ p = fun d => ∃ v, d = dV v ∧ IsRep gs q v
theorem ok_representative {f : Addr} {fd : FuncData} (Fu : FunT K "representative" 68 [] f fd) (mb : MB mg) (mc : MC K mg) (f_need_generators : Fn P w K mg base "need_generators" 5 1 [] W_need_generators) (f_need_square : Fn P w K mg base "need_square" 3 1 [] W_need_square) (f_representative_by : Fn P w K mg base "representative_by" 5 2 [] W_representative_by) (f_describe_by : Fn P w K mg base "describe_by" 5 1 [] W_describe_by) : FnOk P w K mg base CX0 6 f fd ["generators", "square"] (spW K 2 W_representative) := by
  refine fnok_mk (N := ["generators", "square"]) (Gs := ["need_generators", "need_square", "representative_by", "describe_by"]) (Vi := [0, 1]) Fu ⟨rfl, rfl, rfl, by decide +kernel, rfl, by decide +kernel, by decide +kernel⟩ (by decide +kernel) rfl ?_
  rintro X F want ds R c hsc ⟨rfl, p, ⟨n, gs, q, rfl, hn, hg, hq, rfl⟩, rfl⟩ hl hF
  show SL X F _ [some _, some _] _ _ _
  refine sl_cons (ss_expr ?_)
  refine ee_pcall c (i := 0) f_need_generators (by decide) rfl ?_
  refine ea_cons ?_
  refine ee_var c (i := 0) rfl rfl rfl ?_
  refine ea_nil ?_
  refine ⟨_, ⟨_, rfl, hg.1, rfl⟩, rfl, ?_⟩
  rintro _ rfl
  refine sl_cons (ss_expr ?_)
  refine ee_pcall c (i := 1) f_need_square (by decide) rfl ?_
  refine ea_cons ?_
  refine ee_var c (i := 1) rfl rfl rfl ?_
  refine ea_nil ?_
  refine ⟨_, ⟨_, rfl, rfl⟩, rfl, ?_⟩
  rintro _ rfl
  refine sl_cons (ss_ret ?_)
  refine ee_pcall c (i := 2) f_representative_by (by decide) rfl ?_
  refine ea_cons ?_
  refine ee_pcall c (i := 3) f_describe_by (by decide) rfl ?_
  refine ea_cons ?_
  refine ee_var c (i := 0) rfl rfl rfl ?_
  refine ea_nil ?_
  refine ⟨_, ⟨n, gs, rfl, hn, hg, rfl⟩, rfl, ?_⟩
  rintro _ ⟨b, ms, rfl, hD⟩
  refine ea_cons ?_
  refine ee_var c (i := 1) rfl rfl rfl ?_
  refine ea_nil ?_
  refine ⟨_, ⟨n, gs, b, ms, q, rfl, hn, hD, hq, rfl⟩, rfl, ?_⟩
  rintro _ ⟨v, rfl, hR⟩
  exact .pure ⟨⟨v, rfl, hR⟩, rfl⟩
def W_carrying : Spec := fun want ds R => ∃ (n : Nat) (gs : List Sy) (b : List V2) (ms : List Sy) (a q : V2), want = [] ∧ ds = [dD b ms, dV a, dV q] ∧ n ≤ 90 ∧ DescB n gs b ms ∧ BV 5000 a ∧ BV 5000 q ∧ R = fun d st => ∃ (p : Addr) (fs : List Sy), d = .ref p ∧ st = [⟨p, true, .lst (fs.map dS)⟩] ∧ CA gs 6000 a q ms ms.length fs b
theorem ok_carrying {f : Addr} {fd : FuncData} (Fu : FunT K "carrying" 69 [] f fd) (mb : MB mg) (mc : MC K mg) (f_difference_of : Fn P w K mg base "difference_of" 2 2 [] W_difference_of) (f_is_step : Fn P w K mg base "is_step" 4 2 [] W_is_step) (f_image_of : Fn P w K mg base "image_of" 2 2 [] W_image_of) (f_added : Fn P w K mg base "added" 1 3 [.int 1] W_added) (f_added3 : Fn P w K mg base "added" 1 3 [] W_added) (f_offset : Fn P w K mg base "offset" 1 1 [] W_offset) : FnOk P w K mg base CX0 5 f fd ["description", "start", "goal"] (spW K 3 W_carrying) := by
  refine fnok_mk (N := ["description", "start", "goal", "basis", "members", "found", "member", "step"]) (Gs := ["difference_of", "image_of", "is_step", "added", "offset"]) (Vi := [0, 1, 2, 3, 4, 5, 6, 7]) Fu ⟨rfl, rfl, rfl, by decide +kernel, rfl, by decide +kernel, by decide +kernel⟩ (by decide +kernel) rfl ?_
  rintro X F want ds R c hsc ⟨n, gs, b, ms, a, q, rfl, rfl, hn, hD, ha, hq, rfl⟩ hl hF
  show SL X F _ [some _, some _, some _, none, none, none, none, none] _ _ _
  refine sl_cons (ss_asg (vs := [3, 4]) ?_ )
  refine ee_var c (i := 0) rfl rfl rfl ?_
  refine eg_tup c (n := 2) ?_ rfl
  refine egs_cons ?_
  refine eg_name c (i := 3) rfl rfl (by decide) (.there (.there (.there .here))) ?_
  refine egs_cons ?_
  refine eg_name c (i := 4) rfl rfl (by decide) (.there (.there (.there (.there .here)))) ?_
  refine egs_nil ?_
  refine sl_cons (ss_set c (i := 5) rfl rfl ?_)
  refine ee_lst ?_
  refine ea_nil ?_
  refine ⟨Nat.le_of_ble_eq_true rfl, fun p1 => ?_⟩
  refine ⟨_, (.there (.there (.there (.there (.there .here))))), ?_⟩
  refine sl_cons (ss_for c (vs := [6]) ?_)
  refine ei_tup ?_
  refine ee_var c (i := 4) rfl rfl rfl ?_
  refine ⟨_, rfl, ?_⟩
  refine ⟨fun i en st => ∃ fs o5 o6, en = [some (dD b ms), some (dV a), some (dV q), some (dVs b), some (dG ms), some (.ref p1), o5, o6] ∧ st = [⟨p1, true, .lst (fs.map dS)⟩] ∧ CA gs 6000 a q ms i fs b, ⟨[], none, none, rfl, rfl, .init⟩, fun _ _ _ _ _ => trivial, ?_, ?_⟩
  · rintro i d en2 st2 hd ⟨fs, o5, o6, rfl, rfl, hC⟩
    obtain ⟨m, hm, rfl⟩ := getMap hd
    have hmm := List.mem_of_getElem? hm
    have hi : i < ms.length := getLt hm
    have hl8 := hD.len
    have hcl := hC.len
    have hbi : BV 5500 (img m a) := BV.img (hD.bm m hmm) ha (by omega) (by omega)
    have hbs : BV 5600 (vsub q (img m a)) := BV.sub hq hbi (by omega) (by omega)
    refine eg_name c (i := 6) rfl rfl (by decide) (.there (.there (.there (.there (.there (.there .here)))))) ?_
    refine sl_cons (ss_set c (i := 7) rfl rfl ?_)
    refine ee_pcall c (i := 0) f_difference_of (by decide) rfl ?_
    refine ea_cons ?_
    refine ee_var c (i := 2) rfl rfl rfl ?_
    refine ea_cons ?_
    refine ee_pcall c (i := 1) f_image_of (by decide) rfl ?_
    refine ea_cons ?_
    refine ee_var c (i := 6) rfl rfl rfl ?_
    refine ea_cons ?_
    refine ee_var c (i := 1) rfl rfl rfl ?_
    refine ea_nil ?_
    refine ⟨_, ⟨m, a, rfl, rfl⟩, rfl, ?_⟩
    rintro _ rfl
    refine ea_nil ?_
    refine ⟨_, ⟨q, img m a, rfl, rfl⟩, rfl, ?_⟩
    rintro _ rfl
    refine ⟨_, (.there (.there (.there (.there (.there (.there (.there .here))))))), ?_⟩
    refine sl_cons (ss_if ?_)
    refine et_val ?_
    refine ee_pcall c (i := 2) f_is_step (by decide) rfl ?_
    refine ea_cons ?_
    refine ee_var c (i := 3) rfl rfl rfl ?_
    refine ea_cons ?_
    refine ee_var c (i := 7) rfl rfl rfl ?_
    refine ea_nil ?_
    refine ⟨_, ⟨b, vsub q (img m a), rfl, hD.nf, fun v hv => (hD.bb v hv).mono (by omega), hbs.mono (by omega), rfl⟩, rfl, ?_⟩
    rintro _ ⟨b2, rfl, hb2⟩
    refine ⟨_, rfl, ?_⟩
    cases b2
    · refine isF ?_
      refine sl_nil ?_
      refine sl_nil ?_
      exact ⟨fs, _, _, rfl, rfl, hC.skip hm (fun z => absurd (hb2.mpr z) (by decide))⟩
    · refine isT ?_
      refine sl_cons (ss_expr ?_)
      refine ee_append ?_
      refine ee_var c (i := 5) rfl rfl rfl ?_
      refine ⟨_, _, rfl, .here, ?_⟩
      refine ee_catT ?_
      refine ee_to1 ?_
      refine ee_var c (i := 6) rfl rfl rfl ?_
      refine ⟨_, rfl, ?_⟩
      refine ee_pcall c (i := 3) f_added (by decide) rfl ?_
      refine ea_cons ?_
      refine ee_pcall c (i := 4) f_offset (by decide) rfl ?_
      refine ea_cons ?_
      refine ee_var c (i := 6) rfl rfl rfl ?_
      refine ea_nil ?_
      refine ⟨_, ⟨m, rfl, rfl⟩, rfl, ?_⟩
      rintro _ rfl
      refine ea_cons ?_
      refine ee_var c (i := 7) rfl rfl rfl ?_
      refine ea_nil ?_
      refine ⟨_, ⟨m.2, vsub q (img m a), 1, rfl, mulS1 (by decide), mulS1 (by decide), rfl⟩, rfl, ?_⟩
      rw [smul1]
      rintro _ rfl
      refine ⟨_, _, rfl, rfl, Nat.le_of_ble_eq_true rfl, ?_⟩
      refine ⟨_, _, .here, by rw [List.length_map]; have := sizeLine_big; omega, ?_⟩
      refine sl_nil ?_
      refine sl_nil ?_
      exact ⟨_, _, _, rfl, by rw [List.map_append]; rfl, hC.new hD.toIsDesc hm (hb2.mp rfl) (BV.add (hD.bm m hmm) hbs (by omega) (by omega))⟩
  · rintro en2 st2 ⟨fs, o5, o6, rfl, rfl, hC⟩
    rw [List.length_map] at hC
    refine sl_cons (ss_ret ?_)
    refine ee_var c (i := 5) rfl rfl rfl ?_
    exact ⟨_, .refl _, fun e he => by simp at he; rw [he], p1, fs, rfl, rfl, hC⟩
def W_need_all : Spec := Pu fun ds p => ∃ (gs : List Sy) (a q : V2), ds = [dG gs, dV a, dV q] ∧ gs.length ≤ 6 ∧ p = fun d => d = .non
theorem ok_need_all {f : Addr} {fd : FuncData} (Fu : FunT K "need_all" 70 [] f fd) (mb : MB mg) (mc : MC K mg) (f_need_generators : Fn P w K mg base "need_generators" 5 1 [] W_need_generators) (f_need_square : Fn P w K mg base "need_square" 3 1 [] W_need_square) : FnOk P w K mg base CX0 6 f fd ["generators", "start", "goal"] (spW K 3 W_need_all) := by
  refine fnok_mk (N := ["generators", "start", "goal"]) (Gs := ["need_generators", "need_square"]) (Vi := [0, 1, 2]) Fu ⟨rfl, rfl, rfl, by decide +kernel, rfl, by decide +kernel, by decide +kernel⟩ (by decide +kernel) rfl ?_
  rintro X F want ds R c hsc ⟨rfl, p, ⟨gs, a, q, rfl, hg, rfl⟩, rfl⟩ hl hF
  show SL X F _ [some _, some _, some _] _ _ _
  refine sl_cons (ss_expr ?_)
  refine ee_pcall c (i := 0) f_need_generators (by decide) rfl ?_
  refine ea_cons ?_
  refine ee_var c (i := 0) rfl rfl rfl ?_
  refine ea_nil ?_
  refine ⟨_, ⟨_, rfl, hg, rfl⟩, rfl, ?_⟩
  rintro _ rfl
  refine sl_cons (ss_expr ?_)
  refine ee_pcall c (i := 1) f_need_square (by decide) rfl ?_
  refine ea_cons ?_
  refine ee_var c (i := 1) rfl rfl rfl ?_
  refine ea_nil ?_
  refine ⟨_, ⟨_, rfl, rfl⟩, rfl, ?_⟩
  rintro _ rfl
  refine sl_cons (ss_expr ?_)
  refine ee_pcall c (i := 1) f_need_square (by decide) rfl ?_
  refine ea_cons ?_
  refine ee_var c (i := 2) rfl rfl rfl ?_
  refine ea_nil ?_
  refine ⟨_, ⟨_, rfl, rfl⟩, rfl, ?_⟩
  rintro _ rfl
  refine sl_nil ?_
  exact .pure ⟨rfl, rfl⟩
def W_is_apart : Spec := Pu fun ds p => ∃ (n : Nat) (gs : List Sy) (a q s0 : V2) (sq : List V2), ds = [dG gs, dV a, dV q, dVs sq] ∧ n ≤ 90 ∧ GB n gs ∧ BV 5000 a ∧ BV 5000 q ∧ BL 5000 sq ∧ sq.length < 64 ∧ OrbSq gs s0 sq ∧ p = fun d => ∃ t, d = .bl t ∧ (t = true ↔ (Orb gs s0 a ∧ ¬ Orb gs s0 q))
theorem ok_is_apart {f : Addr} {fd : FuncData} (Fu : FunT K "is_apart" 72 [] f fd) (mb : MB mg) (mc : MC K mg) (f_describe_by : Fn P w K mg base "describe_by" 5 1 [] W_describe_by) (f_reduced : Fn P w K mg base "reduced" 3 2 [] W_reduced) (f_is_square : Fn P w K mg base "is_square" 2 1 [] W_is_square) (f_image_of : Fn P w K mg base "image_of" 2 2 [] W_image_of) : FnOk P w K mg base CX0 6 f fd ["generators", "start", "goal", "squares"] (spW K 4 W_is_apart) := by
  refine fnok_mk (N := ["generators", "start", "goal", "squares", "basis", "held", "one", "square"]) (Gs := ["isinstance", "tuple", "all", "describe_by", "sorted", "set", "reduced"]) (Vi := [0, 1, 2, 3, 4, 5, 6]) Fu ⟨rfl, rfl, rfl, by decide +kernel, rfl, by decide +kernel, by decide +kernel⟩ (by decide +kernel) rfl ?_
  rintro X F want ds R c hsc ⟨rfl, p, ⟨n, gs, a, q, s0, sq, rfl, hn, hg, ha, hq, hsq, hsl, hO, rfl⟩, rfl⟩ hl hF
  show SL X F _ [some _, some _, some _, some _, none, none, none, none] _ _ _
  refine sl_cons (ss_if ?_)
  refine ew_pt ?_
  refine ew_or ?_
  refine et_not ?_
  refine et_val ?_
  refine ee_isi c (i := 0) rfl mb.isinstance (j := 1) rfl mb.tuple rfl ?_
  refine ee_var c (i := 3) rfl rfl rfl ?_
  refine ⟨true, rfl, ?_⟩
  refine ⟨_, rfl, ?_⟩
  refine isF ?_
  refine ew_or1 ?_
  refine et_not ?_
  refine et_val ?_
  refine ee_all c (i := 2) rfl mb.all ?_
  refine ee_lc c [("square", 7)] (G' := ["is_square"]) (V' := [7]) (by rw [hsc]; decide +kernel) (by rw [hsc]; decide +kernel) ?_
  refine ei_tup ?_
  refine ee_var c (i := 3) rfl rfl rfl ?_
  refine ⟨_, rfl, ?_⟩
  intro p1
  refine ⟨fun i st => st = ⟨p1, true, .lst ((List.replicate i true).map D.bl)⟩ :: [], rfl, fun _ _ _ _ => trivial, ?_, ?_⟩
  · rintro i d st2 hd rfl Xp1 hX
    obtain ⟨s, hs, rfl⟩ := getMap hd
    refine eg_name hX.2 (i := 7) rfl rfl (by decide) (.there (.there (.there (.there (.there (.there (.there .here))))))) ?_
    intro Xp1 hX
    refine ee_pcall hX.2 (i := 0) f_is_square (by decide) rfl ?_
    refine ea_cons ?_
    refine ee_var hX.2 (i := 7) rfl rfl rfl ?_
    refine ea_nil ?_
    refine ⟨_, ⟨_, rfl, rfl⟩, rfl, ?_⟩
    rintro _ rfl
    refine ⟨_, _, .here, lenRep hd (by rw [List.length_map]; have := sizeLine_big; omega), ?_⟩
    exact snocTrue _ _
  · rintro st2 rfl
    refine ⟨_, _, rfl, .here, ?_⟩
    rw [allrep]
    refine ⟨_, rfl, ?_⟩
    refine isF ?_
    refine sl_nil ?_
    refine sl_st (List.nil_sublist _) ?_
    refine sl_cons (ss_set c (i := 4) rfl rfl ?_)
    refine ee_ixT ?_
    refine ee_pcall c (i := 3) f_describe_by (by decide) rfl ?_
    refine ea_cons ?_
    refine ee_var c (i := 0) rfl rfl rfl ?_
    refine ea_nil ?_
    refine ⟨_, ⟨n, gs, rfl, hn, hg, rfl⟩, rfl, ?_⟩
    rintro _ ⟨b, ms, rfl, hD⟩
    have hbb : BL 8000 b := fun v hv => (hD.bb v hv).mono (by omega)
    refine ee_int ?_
    refine ⟨_, _, _, rfl, rfl, rfl, ?_⟩
    refine ⟨_, (.there (.there (.there (.there .here)))), ?_⟩
    refine sl_cons (ss_set c (i := 5) rfl rfl ?_)
    refine ee_sortSetT c (i := 4) rfl mb.sorted (j := 5) rfl mb.set ?_
    refine ee_lc c [("square", 7)] (G' := ["reduced"]) (V' := [4, 7]) (by rw [hsc]; decide +kernel) (by rw [hsc]; decide +kernel) ?_
    refine ei_tup ?_
    refine ee_var c (i := 3) rfl rfl rfl ?_
    refine ⟨_, rfl, ?_⟩
    intro p2
    refine ⟨fun i st => st = [⟨p2, true, .lst (((sq.take i).map (red b)).map dV)⟩], rfl, fun _ _ _ _ => trivial, ?_, ?_⟩
    · rintro i d st2 hd rfl Xp2 hX
      obtain ⟨s, hs, rfl⟩ := getMap hd
      have hsm := List.mem_of_getElem? hs
      refine eg_name hX.2 (i := 7) rfl rfl (by decide) (.there (.there (.there (.there (.there (.there (.there .here))))))) ?_
      intro Xp2 hX
      refine ee_pcall hX.2 (i := 0) f_reduced (by decide) rfl ?_
      refine ea_cons ?_
      refine ee_var hX.2 (i := 4) rfl rfl rfl ?_
      refine ea_cons ?_
      refine ee_var hX.2 (i := 7) rfl rfl rfl ?_
      refine ea_nil ?_
      refine ⟨_, ⟨b, s, rfl, hD.nf, hbb, (hsq s hsm).mono (by omega), rfl⟩, rfl, ?_⟩
      rintro _ rfl
      refine ⟨_, _, .here, by rw [List.map_map]; exact lenTake hs (by have := sizeLine_big; omega), ?_⟩
      show _ = _
      rw [takeS hs, List.map_append, List.map_append]; rfl
    · rintro st2 rfl
      rw [List.length_map, List.take_length, map_dV_tI]
      refine ⟨_, (sq.map (red b)).map lV, 2, rfl, .here, by rw [List.length_map, List.length_map]; exact hsl, by decide, fun ns hns => by obtain ⟨v, _, rfl⟩ := List.mem_map.mp hns; rfl, fun pS nss hnd hmem hs hl64 => ?_⟩
      obtain ⟨vs, rfl, hvs⟩ := set_back hmem
      rw [← map_dV_tI]
      rw [List.length_map] at hl64
      refine ⟨_, (.there (.there (.there (.there (.there .here))))), ?_⟩
      refine sl_st (.cons_cons _ (List.nil_sublist _)) ?_
      have hin : ∀ v : V2, dV v ∈ vs.map dV ↔ v ∈ vs := fun v => mem_map_iff fun _ _ => dV_inj
      refine sl_cons (ss_if ?_)
      refine ew_pt ?_
      refine ew_or ?_
      refine et_ninL c ?_
      refine ee_pcall c (i := 6) f_reduced (by decide) rfl ?_
      refine ea_cons ?_
      refine ee_var c (i := 4) rfl rfl rfl ?_
      refine ea_cons ?_
      refine ee_var c (i := 1) rfl rfl rfl ?_
      refine ea_nil ?_
      refine ⟨_, ⟨b, a, rfl, hD.nf, hbb, ha.mono (by omega), rfl⟩, rfl, ?_⟩
      rintro _ rfl
      refine ee_var c (i := 5) rfl rfl rfl ?_
      refine ⟨_, _, rfl, .here, pl_dV _, pls_dVl _, ?_⟩
      refine ⟨fun h3 => ?_, fun h3 => ?_⟩
      · refine isT ?_
        refine isT ?_
        refine sl_cons (ss_ret ?_)
        refine ee_bl ?_
        exact .pure ⟨⟨false, rfl, ⟨fun z => (nomatch z), fun z => absurd ((hin _).mpr ((held_iff hD.toIsDesc hO hvs).mpr z.1)) h3⟩⟩, rfl⟩
      · refine isF ?_
        refine ew_or1 ?_
        refine et_inL c ?_
        refine ee_pcall c (i := 6) f_reduced (by decide) rfl ?_
        refine ea_cons ?_
        refine ee_var c (i := 4) rfl rfl rfl ?_
        refine ea_cons ?_
        refine ee_var c (i := 2) rfl rfl rfl ?_
        refine ea_nil ?_
        refine ⟨_, ⟨b, q, rfl, hD.nf, hbb, hq.mono (by omega), rfl⟩, rfl, ?_⟩
        rintro _ rfl
        refine ee_var c (i := 5) rfl rfl rfl ?_
        refine ⟨_, _, rfl, .here, pl_dV _, pls_dVl _, ?_⟩
        refine ⟨fun h4 => ?_, fun h4 => ?_⟩
        · refine isT ?_
          refine sl_cons (ss_ret ?_)
          refine ee_bl ?_
          exact .pure ⟨⟨false, rfl, ⟨fun z => (nomatch z), fun z => absurd ((held_iff hD.toIsDesc hO hvs).mp ((hin _).mp h4)) z.2⟩⟩, rfl⟩
        · refine isF ?_
          refine sl_nil ?_
          refine sl_cons (ss_for c (vs := [6]) ?_)
          refine ei_tup ?_
          refine ee_var c (i := 0) rfl rfl rfl ?_
          refine ⟨_, rfl, ?_⟩
          refine ⟨fun i en st => ∃ o6, en = [some (dG gs), some (dV a), some (dV q), some (dVs sq), some (dVs b), some (.ref pS), o6, none] ∧ st = [⟨pS, true, .lst (vs.map dV)⟩], ⟨none, rfl, rfl⟩, fun _ _ _ _ _ => trivial, ?_, ?_⟩
          · rintro i d en2 st2 hd ⟨o6, rfl, rfl⟩
            obtain ⟨g, hgi, rfl⟩ := getMap hd
            have hgm := List.mem_of_getElem? hgi
            refine eg_name c (i := 6) rfl rfl (by decide) (.there (.there (.there (.there (.there (.there .here)))))) ?_
            refine sl_cons (ss_if ?_)
            refine et_not ?_
            refine et_val ?_
            refine ee_all c (i := 2) rfl mb.all ?_
            refine ee_lc c [("square", 7)] (G' := ["reduced", "image_of"]) (V' := [5, 4, 6, 7]) (by rw [hsc]; decide +kernel) (by rw [hsc]; decide +kernel) ?_
            refine ei_lst ?_
            refine ee_var c (i := 5) rfl rfl rfl ?_
            refine ⟨_, _, rfl, .here, ?_⟩
            intro p5
            refine ⟨fun i st => st = ⟨p5, true, .lst ((List.replicate i true).map D.bl)⟩ :: [⟨pS, true, .lst (vs.map dV)⟩], rfl, fun _ _ _ e => by rw [e]; exact .there .here, ?_, ?_⟩
            · rintro i d st2 hd rfl Xp5 hX
              obtain ⟨v, hv, rfl⟩ := getMap hd
              have hvm := List.mem_of_getElem? hv
              refine eg_name hX.2 (i := 7) rfl rfl (by decide) (.there (.there (.there (.there (.there (.there (.there .here))))))) ?_
              intro Xp5 hX
              refine ee_inL hX.2 ?_
              refine ee_pcall hX.2 (i := 0) f_reduced (by decide) rfl ?_
              refine ea_cons ?_
              refine ee_var hX.2 (i := 4) rfl rfl rfl ?_
              refine ea_cons ?_
              refine ee_pcall hX.2 (i := 1) f_image_of (by decide) rfl ?_
              refine ea_cons ?_
              refine ee_var hX.2 (i := 6) rfl rfl rfl ?_
              refine ea_cons ?_
              refine ee_var hX.2 (i := 7) rfl rfl rfl ?_
              refine ea_nil ?_
              refine ⟨_, ⟨g, v, rfl, rfl⟩, rfl, ?_⟩
              rintro _ rfl
              refine ea_nil ?_
              have hbv : BV 6000 v := by
                obtain ⟨s, hs, rfl⟩ := List.mem_map.mp ((hvs v).mp hvm)
                exact (BV.red hD.nf hD.bb (hsq s hs)).mono (by omega)
              refine ⟨_, ⟨b, img g v, rfl, hD.nf, hbb, (BV.img (hg.2 g hgm) hbv (k := 6100) (by omega) (by omega)).mono (by omega), rfl⟩, rfl, ?_⟩
              rintro _ rfl
              refine ee_var hX.2 (i := 5) rfl rfl rfl ?_
              refine ⟨_, _, rfl, .there .here, pl_dV _, pls_dVl _, ?_⟩
              intro b6 hb6
              obtain rfl : b6 = true := hb6.mpr ((hin _).mpr (held_cl hD.toIsDesc hO hvs hgm hvm))
              refine ⟨_, _, .here, lenRep hd (by rw [List.length_map]; have := sizeLine_big; omega), ?_⟩
              exact snocTrue _ _
            · rintro st2 rfl
              refine ⟨_, _, rfl, .here, ?_⟩
              rw [allrep]
              refine ⟨_, rfl, ?_⟩
              refine isF ?_
              refine sl_st (.cons _ (.refl _)) ?_
              refine sl_nil ?_
              refine sl_nil ?_
              exact ⟨_, rfl, rfl⟩
          · rintro en2 st2 ⟨o6, rfl, rfl⟩
            refine sl_cons (ss_ret ?_)
            refine ee_bl ?_
            exact .pure ⟨⟨true, rfl, ⟨fun _ => ⟨(held_iff hD.toIsDesc hO hvs).mp ((hin _).mp (Classical.not_not.mp h3)), fun z => h4 ((hin _).mpr ((held_iff hD.toIsDesc hO hvs).mpr z))⟩, fun _ => rfl⟩⟩, rfl⟩
end G
end
section

set_option Elab.async false
set_option linter.all false
set_option maxRecDepth 100000
set_option maxHeartbeats 4000000
/-! W1: the rules for the Writer's instance. -/
namespace G
open PySem L2
abbrev MetT (K : PySem.W.Frag) (x qual : Str) (i j : Nat) (f : Addr) (fd : FuncData) : Prop := FunD K x qual (defArgs (topm i j)) (defBody (topm i j)) (defScope (topm i j)) [] [] f fd
structure WC (K : PySem.W.Frag) (C : Addr) : Prop where
  cls : Cls K C
  n_many : NoAttr K C "many"
  n_known : NoAttr K C "known"
  n_lines : NoAttr K C "lines"
  n_samples : NoAttr K C "samples"
  n_steps : NoAttr K C "steps"
section
variable {X : Cx} {F : Fr} {en : Env} {st : Sto} {P : Program} {w : World} {K : PySem.W.Frag} {mg : Str → Option Value} {base : Heap} {N Gs : List Str} {Vi M : List Nat} {k : Nat}
theorem ee_self (c : Cg P w K mg base N Gs Vi M k X) {i : Nat} {x f : Str} {p1 pos : Pos} {p C dx : Addr} {fs : List (Str × D)} {d : D} {Q : D → Sto → Prop} (hN : N[i]? = some x) (hV : Vi.contains i = true) (he : en[i]? = some (some (.ref p))) (hC : Cls K C) (hn : NoAttr K C f)
    (hh : Has st p (.ins C dx fs)) (hl : fs.lookup f = some d) (q : Q d st) (hb : attributeBase (.Name x p1) f X.env (eval (.Name x p1) X.env) = eval (.Name x p1) X.env := by rfl) : EE X F en (.Attribute (.Name x p1) f pos) st Q :=
  ee_fld (ee_var c hN hV he ⟨p, C, dx, fs, d, rfl, hh, by rw [c.eK]; exact hC, by rw [c.eK]; exact hn, hl, q⟩) hb
theorem ss_self (c : Cg P w K mg base N Gs Vi M k X) {i : Nat} {x f : Str} {p1 pos pos' : Pos} {p C : Addr} {value : Expr} {Nn : Env → Sto → Prop} {R : D → Sto → Prop} (hN : N[i]? = some x) (hV : Vi.contains i = true) (he : en[i]? = some (some (.ref p))) (hC : Cls K C) (hn : NoAttr K C f)
    (q : EE X F en value st fun d st1 => ∃ (dx : Addr) (fs : List (Str × D)) (st3 : Sto), Put st1 p (.ins C dx fs) (.ins C dx (setF f d fs)) st3 ∧ fs.length < 1000 ∧ Nn en st3)
    (hs : swapsWith value (some (.Attribute (.Name x p1) f pos')) pos.line X.env = pure false := by rfl) : SS X F (.Assign [.Attribute (.Name x p1) f pos'] value pos) en st Nn R :=
  ss_fld (ee_mono q fun d st1 ⟨dx, fs, st3, hp, hl, q1⟩ => ee_var c hN hV he ⟨p, C, dx, fs, st3, rfl, hp, by rw [c.eK]; exact hC, by rw [c.eK]; exact hn, hl, q1⟩) hs
theorem eg_self (c : Cg P w K mg base N Gs Vi M k X) {vs : List Nat} {i : Nat} {x f : Str} {p1 pos : Pos} {p C dx : Addr} {fs : List (Str × D)} {d : D} {st3 : Sto} {Q : Env → Sto → Prop} (hN : N[i]? = some x) (hV : Vi.contains i = true) (he : en[i]? = some (some (.ref p))) (hC : Cls K C) (hn : NoAttr K C f)
    (hp : Put st p (.ins C dx fs) (.ins C dx (setF f d fs)) st3) (hl : fs.length < 1000) (q : Q en st3) : EG X F vs (.Attribute (.Name x p1) f pos) d en st Q :=
  eg_fld (ee_var c hN hV he ⟨p, C, dx, fs, st3, rfl, hp, by rw [c.eK]; exact hC, by rw [c.eK]; exact hn, hl, q⟩)
theorem ee_smeth (c : Cg P w K mg base N Gs Vi M k X) {C : Addr} {m : Str} {j n : Nat} {W : Spec} (f : Mt P w K mg base C m j n W) (hC : Cls K C) {i : Nat} {x : Str} {p1 : Pos} {p dx : Addr} {fs : List (Str × D)} {e : Expr} {es : List Expr} {apos pos : Pos} {pl : Sem Bool} {Q : D → Sto → Prop} (hj : j ≤ k)
    (hN : N[i]? = some x) (hV : Vi.contains i = true) (he : en[i]? = some (some (.ref p))) (hh : Has st p (.ins C dx fs)) (hl : fs.lookup m = none)
    (q : EA X F en (e :: es) st fun ds st2 => ∃ want rest R, Tk st2 want rest ∧ W want (.ref p :: ds) R ∧ ds.length + 1 = n ∧ ∀ d st', R d st' → Q d (st' ++ rest))
    (hs : starEach (e :: es) X.env = (false, eval e X.env) :: starEach es X.env := by rfl) (hpl : (backTo pos (starEach es X.env)).any (·.1) = false := by rfl)
    (ht : eval (.Call (.Attribute (.Name x p1) m apos) (e :: es) [] pos) X.env = (do
      let ov ← eval (.Name x p1) X.env
      standAt apos.atName
      let (f, first) ← holding [ov] (getMethod ov m pl)
      callWith pos f first (backTo pos (starEach (e :: es) X.env)) (backToKw pos (keywordEach [] X.env))) := by rfl) : EE X F en (.Call (.Attribute (.Name x p1) m apos) (e :: es) [] pos) st Q :=
  ee_meth c f hC hj (ee_var c hN hV he ⟨p, dx, fs, rfl, hh, hl, q⟩) hs hpl ht
theorem ee_smeth0 (c : Cg P w K mg base N Gs Vi M k X) {C : Addr} {m : Str} {j n : Nat} {W : Spec} (f : Mt P w K mg base C m j n W) (hC : Cls K C) {i : Nat} {x : Str} {p1 : Pos} {p dx : Addr} {fs : List (Str × D)} {apos pos : Pos} {pl : Sem Bool} {Q : D → Sto → Prop} (hj : j ≤ k)
    (hN : N[i]? = some x) (hV : Vi.contains i = true) (he : en[i]? = some (some (.ref p))) (hh : Has st p (.ins C dx fs)) (hl : fs.lookup m = none)
    (q : ∃ want rest R, Tk st want rest ∧ W want [.ref p] R ∧ 1 = n ∧ ∀ d st', R d st' → Q d (st' ++ rest))
    (ht : eval (.Call (.Attribute (.Name x p1) m apos) [] [] pos) X.env = (do
      let ov ← eval (.Name x p1) X.env
      standAt apos.atName
      let (f, first) ← holding [ov] (getMethod ov m pl)
      callWith pos f first (backTo pos (starEach [] X.env)) (backToKw pos (keywordEach [] X.env))) := by rfl) : EE X F en (.Call (.Attribute (.Name x p1) m apos) [] [] pos) st Q :=
  ee_meth0 c f hC hj (ee_var c hN hV he ⟨p, dx, fs, rfl, hh, hl, q⟩) ht
end
/-- the instance's fields -/
def fsW (n : Nat) (k l : Addr) (r : List (Str × D)) : List (Str × D) := ("many", .int (n : Nat)) :: ("known", .ref k) :: ("lines", .ref l) :: r
structure Rw (r : List (Str × D)) : Prop where
  write : r.lookup ("write" : Str) = none
  step_of : r.lookup ("step_of" : Str) = none
  divided : r.lookup ("divided" : Str) = none
theorem Rw.nil : Rw [] := ⟨rfl, rfl, rfl⟩
theorem Rw.one (d : D) : Rw [("samples", d)] := ⟨by rfl, by rfl, by rfl⟩
theorem Rw.two (d e : D) : Rw [("samples", d), ("steps", e)] := ⟨by rfl, by rfl, by rfl⟩
end G
end
section
set_option Elab.async false
set_option linter.all false
set_option maxRecDepth 100000
set_option maxHeartbeats 4000000
/-! W2: the Writer, plainly. -/
namespace G
open PySem L2
structure WS (gs known : List Sy) (lines : List Ln) : Prop where
  run : known = runP gs lines
  pb : PB gs lines
theorem WS.init {gs : List Sy} : WS gs gs [] := ⟨rfl, .nil⟩
theorem WS.klen {gs known : List Sy} {lines : List Ln} (h : WS gs known lines) : known.length = gs.length + lines.length := by rw [h.run, runP_len]
theorem WS.snoc {gs known : List Sy} {lines : List Ln} {l : Ln} (h : WS gs known lines) (hl : lines.length < 4194304) (hll : l.length ≤ 1000) (ho : ∀ f ∈ l, FOk known f) : WS gs (known ++ [lineVal known l]) (lines ++ [l]) :=
  ⟨by rw [runP_snoc, ← h.run], h.pb.snoc hl hll (by rw [← h.run]; exact ho)⟩
theorem WS.gen {gs known : List Sy} {lines : List Ln} (h : WS gs known lines) {i : Nat} {g : Sy} (hg : gs[i]? = some g) : known[i]? = some g := by
  obtain ⟨e, he⟩ := runP_ext gs lines
  rw [h.run, he, List.getElem?_append_left (getLt hg)]; exact hg
theorem get_ext {xs ext : List Sy} {i : Nat} {g : Sy} (h : xs[i]? = some g) : (xs ++ ext)[i]? = some g := by rw [List.getElem?_append_left (getLt h)]; exact h
theorem get_last {xs : List Sy} {g : Sy} : (xs ++ [g])[xs.length]? = some g := by simp
theorem fok_of {known : List Sy} {i : Nat} {g : Sy} {e : Int} (h : known[i]? = some g) (hg : BV 100000 g.2) (he : Bt 100000 e) : FOk known (i, e) :=
  ⟨getLt h, he, by show BV 100000 (known.getD i one).2; rw [List.getD_eq_getElem?_getD, h]; exact hg⟩
theorem getD_of {known : List Sy} {i : Nat} {g : Sy} (h : known[i]? = some g) : known.getD i one = g := by rw [List.getD_eq_getElem?_getD, h]; rfl
theorem lv2 {known : List Sy} {i j : Nat} {g h : Sy} {e f : Int} (h1 : known[i]? = some g) (h2 : known[j]? = some h) : lineVal known [(i, e), (j, f)] = mul (pw g e) (pw h f) := by
  show mul (mul one (pw (known.getD i one) e)) (pw (known.getD j one) f) = _
  rw [getD_of h1, getD_of h2, one_mul]
theorem lv3 {known : List Sy} {i j k : Nat} {g h x : Sy} {e f d : Int} (h1 : known[i]? = some g) (h2 : known[j]? = some h) (h3 : known[k]? = some x) : lineVal known [(i, e), (j, f), (k, d)] = mul (mul (pw g e) (pw h f)) (pw x d) := by
  show mul (mul (mul one (pw (known.getD i one) e)) (pw (known.getD j one) f)) (pw (known.getD k one) d) = _
  rw [getD_of h1, getD_of h2, getD_of h3, one_mul]
theorem lv0 {known : List Sy} : lineVal known [] = one := rfl
theorem lv_samp {known : List Sy} {i j : Nat} {g h : Sy} (h1 : known[i]? = some g) (h2 : known[j]? = some h) : lineVal known [(i, 1), (j, 1)] = mul g h := by rw [lv2 h1 h2, pw1, pw1]
theorem lv_sft {known : List Sy} {i j k : Nat} {g h x : Sy} (h1 : known[i]? = some g) (h2 : known[j]? = some h) (h3 : known[k]? = some x) : lineVal known [(i, 1), (j, 1), (k, -1)] = mul (mul g h) (inv x) := by rw [lv3 h1 h2 h3, pw1, pw1, pw_neg1]
theorem lv_div {known : List Sy} {i j : Nat} {u v : V2} {t : Int} (h1 : known[i]? = some (0, u)) (h2 : known[j]? = some (0, v)) : lineVal known [(i, 1), (j, t)] = (0, vadd u (smul t v)) := by
  rw [lv2 h1 h2, pw1, pw_shift, mul_shifts]
def cmp (i : Nat) (v : V2) : Int := if i = 0 then v.1 else v.2
theorem atCmp {i : Nat} (h : i = 0 ∨ i = 1) (v : V2) : atI [D.int v.1, D.int v.2] ((i : Nat) : Int) = some (.int (cmp i v)) := by
  rcases h with rfl | rfl <;> rfl
def kvP (ps : List (Sy × Nat)) : List (Int × D) := ps.map fun p => (((p.1.1.val : Nat) : Int), .int (p.2 : Nat))
theorem kvP_find : ∀ (ps : List (Sy × Nat)) (k : Fin 8), (kvP ps).lookup ((k.val : Nat) : Int) = (ps.find? (fun p => p.1.1 == k)).map fun p => D.int (p.2 : Nat)
  | [], _ => rfl
  | s :: r, k => by
    show List.lookup _ ((((s.1.1.val : Nat) : Int), D.int (s.2 : Nat)) :: kvP r) = _
    rw [List.lookup_cons, List.find?_cons]
    by_cases h : s.1.1 = k
    · subst h; simp
    · have h1 : (((k.val : Nat) : Int) == ((s.1.1.val : Nat) : Int)) = false := by
        rw [beq_eq_false_iff_ne]; intro e; exact h (Fin.ext (by omega))
      have h2 : (s.1.1 == k) = false := by rw [beq_eq_false_iff_ne]; exact h
      rw [h1, h2]
      exact kvP_find r k
theorem kvP_none {ps : List (Sy × Nat)} {k : Fin 8} (h : (kvP ps).lookup ((k.val : Nat) : Int) = none) : ∀ s ∈ ps.map Prod.fst, s.1 ≠ k := by
  rw [kvP_find] at h
  intro s hs e
  obtain ⟨p, hp, rfl⟩ := List.mem_map.mp hs
  have := List.find?_eq_none.mp (Option.map_eq_none_iff.mp h) p hp
  simp [e] at this
theorem kvP_some {ps : List (Sy × Nat)} {k : Fin 8} {d : D} (h : (kvP ps).lookup ((k.val : Nat) : Int) = some d) : ∃ s ∈ ps.map Prod.fst, s.1 = k := by
  rw [kvP_find] at h
  cases hf : ps.find? (fun p => p.1.1 == k) with
  | none => rw [hf] at h; cases h
  | some t => exact ⟨t.1, List.mem_map.mpr ⟨t, List.mem_of_find?_eq_some hf, rfl⟩, by simpa using List.find?_some hf⟩
/-- where a sample stands -/
theorem kvP_get {ps : List (Sy × Nat)} {k : Fin 8} (h : ∃ s ∈ ps.map Prod.fst, s.1 = k) : ∃ p ∈ ps, (kvP ps).lookup ((k.val : Nat) : Int) = some (.int (p.2 : Nat)) ∧ p.1 = smp (ps.map Prod.fst) k := by
  rw [kvP_find]
  unfold smp
  rw [List.find?_map]
  cases hf : ps.find? (fun p => p.1.1 == k) with
  | none =>
    obtain ⟨s, hs, e⟩ := h
    obtain ⟨p, hp, rfl⟩ := List.mem_map.mp hs
    have := List.find?_eq_none.mp hf p hp
    simp [e] at this
  | some t =>
    refine ⟨t, List.mem_of_find?_eq_some hf, rfl, ?_⟩
    have : List.find? ((fun s : Sy => s.1 == k) ∘ Prod.fst) ps = some t := hf
    rw [this]; rfl
theorem kvP_snoc (ps : List (Sy × Nat)) (s : Sy) (r : Nat) : kvP ps ++ [(((s.1.val : Nat) : Int), .int (r : Nat))] = kvP (ps ++ [(s, r)]) := by unfold kvP; rw [List.map_append]; rfl
/-! ### how long Euclid may take -/
def norm' (a b : Int) : Prop := (0 < b ∧ b ≤ a) ∨ (b < 0 ∧ a ≤ b)
instance (a b : Int) : Decidable (norm' a b) := by unfold norm'; infer_instance
def mu (a b : Int) : Nat := if b = 0 then 0 else if norm' a b then a.natAbs.log2 + b.natAbs.log2 + 1 else 2 * b.natAbs.log2 + 2
theorem log2_mono {a b : Nat} (h : a ≤ b) : a.log2 ≤ b.log2 := by
  by_cases ha : a = 0
  · subst ha; simp
  · have hb : b ≠ 0 := by omega
    have h1 : 2 ^ a.log2 ≤ a := Nat.log2_self_le ha
    exact (Nat.le_log2 hb).mpr (by omega)
theorem log2_half {a c : Nat} (hc : c ≠ 0) (h : 2 * c ≤ a) : c.log2 + 1 ≤ a.log2 := by
  have ha : a ≠ 0 := by omega
  have h1 : 2 ^ c.log2 ≤ c := Nat.log2_self_le hc
  refine (Nat.le_log2 ha).mpr ?_
  rw [Nat.pow_succ]; omega
theorem mu_lt {a b : Int} (hb : b ≠ 0) : mu b (a - a.fdiv b * b) < mu a b := by
  have e : a - a.fdiv b * b = a.fmod b := by have := Int.fmod_add_mul_fdiv a b; rw [Int.mul_comm]; omega
  rw [e]
  have hd := Int.fmod_add_mul_fdiv a b
  have hlt : (a.fmod b).natAbs < b.natAbs := natAbs_fmod hb
  have hs : (0 < b → 0 ≤ a.fmod b) ∧ (b < 0 → a.fmod b ≤ 0) := by
    refine ⟨fun h => Int.fmod_nonneg_of_pos a h, fun h => ?_⟩
    have e : a.fmod b = -((-a).fmod (-b)) := by rw [Int.neg_fmod_neg]; omega
    have h1 := Int.fmod_nonneg_of_pos (-a) (show 0 < -b by omega)
    omega
  have hq : norm' a b → 2 * (a.fmod b).natAbs ≤ a.natAbs := by
    generalize a.fmod b = c at *
    generalize a.fdiv b = q at *
    rintro (⟨h1, h2⟩ | ⟨h1, h2⟩)
    · have hc := hs.1 h1
      have q1 : 1 ≤ q := by
        rcases Int.lt_or_le q 1 with z | z
        · have : b * q ≤ b * 0 := Int.mul_le_mul_of_nonneg_left (by omega) (by omega)
          omega
        · exact z
      have : b * 1 ≤ b * q := Int.mul_le_mul_of_nonneg_left q1 (by omega)
      omega
    · have hc := hs.2 h1
      have q1 : 1 ≤ q := by
        rcases Int.lt_or_le q 1 with z | z
        · have : (-b) * q ≤ (-b) * 0 := Int.mul_le_mul_of_nonneg_left (by omega) (by omega)
          have e : (-b) * q = -(b * q) := Int.neg_mul ..
          omega
        · exact z
      have : (-b) * 1 ≤ (-b) * q := Int.mul_le_mul_of_nonneg_left q1 (by omega)
      have e : (-b) * q = -(b * q) := Int.neg_mul ..
      omega
  generalize a.fmod b = c at *
  unfold mu
  rw [if_neg hb]
  by_cases hc : c = 0
  · rw [if_pos hc]; split <;> omega
  · rw [if_neg hc]
    have nb : norm' b c := by
      unfold norm'
      rcases Int.lt_or_gt_of_ne hb with z | z
      · have := hs.2 z; right; omega
      · have := hs.1 z; left; omega
    rw [if_pos nb]
    have l1 : c.natAbs.log2 ≤ b.natAbs.log2 := log2_mono (by omega)
    by_cases hn : norm' a b
    · rw [if_pos hn]
      have := log2_half (by omega) (hq hn)
      omega
    · rw [if_neg hn]; omega
theorem mu_le {a b : Int} {n : Nat} (ha : Bt n a) (hb : Bt n b) : mu a b ≤ 2 * n + 2 := by
  have h1 := ha.log
  have h2 := hb.log
  unfold mu
  split
  · omega
  · split <;> omega
end G
namespace G
open PySem L2
section
variable {X : Cx} {F : Fr} {en : Env} {st : Sto}
theorem SOk.perm {K : PySem.W.Frag} {st' : Sto} {H : Hp} (s : SOk K F st H) (h : st.Perm st') : SOk K F st' H :=
  ⟨s.ext, s.txt, fun e he => s.objs e (h.mem_iff.mpr he), (h.map _).nodup_iff.mp s.nd, fun e he => s.own e (h.mem_iff.mpr he), s.live⟩
theorem sl_pm {s : List Stmt} {st' : Sto} {Nn : Env → Sto → Prop} {R : D → Sto → Prop} (hp : st.Perm st') (q : SL X F s en st' Nn R) : SL X F s en st Nn R :=
  .intro fun σ H D a b n r => q.use (a.perm hp) b n r
theorem ee_pm {e : Expr} {st' : Sto} {Q : D → Sto → Prop} (hp : st.Perm st') (q : EE X F en e st' Q) : EE X F en e st Q :=
  .intro fun σ H k a b h => q.use (a.perm hp) b h
/-- at an expression's end the store may stand in another order -/
theorem ee_pmo {e : Expr} {Q : D → Sto → Prop} (q : EE X F en e st fun d st1 => ∃ st2, st1.Perm st2 ∧ Q d st2) : EE X F en e st Q :=
  .intro fun σ H k a b h => q.use a b fun d st' v H' ⟨st2, s, q'⟩ a' t' at' => h d st2 v H' q' (a'.perm s) t' at'
end
end G
namespace G
theorem bt1 {n : Nat} (h : 1 ≤ n) : Bt n 1 := Bt.mono (n := 1) (show (1 : Int).natAbs < 2 ^ 1 by decide) h
theorem btm1 {n : Nat} (h : 1 ≤ n) : Bt n (-1) := Bt.mono (n := 1) (show (-1 : Int).natAbs < 2 ^ 1 by decide) h
end G
end
section
set_option Elab.async false
set_option linter.all false
set_option maxRecDepth 100000
set_option maxHeartbeats 4000000
namespace G
open PySem L2
variable {P : Program} {w : World} {K : PySem.W.Frag} {mg : Str → Option Value} {base : Heap}
def W_write (C : Addr) : Spec := fun want ds R => ∃ (dx : Addr) (many : Nat) (k l w : Addr) (r : List (Str × D)) (known : List Sy) (lines : List Ln) (ln : Ln), want = [⟨w, false, .ins C dx (fsW many k l r)⟩, ⟨k, true, .lst (known.map dS)⟩, ⟨l, true, .lst (lines.map dL)⟩] ∧ ds = [.ref w, dL ln] ∧ (∀ f ∈ ln, FOk known f) ∧ known.length < 8388608 ∧ lines.length < 8388608 ∧ R = fun d st => d = .int (known.length : Nat) ∧ st = [⟨k, true, .lst ((known ++ [lineVal known ln]).map dS)⟩, ⟨l, true, .lst ((lines ++ [ln]).map dL)⟩]
theorem ok_write {f C : Addr} {fd : FuncData} (Fu : MetT K "write" "Writer.write" 60 1 f fd) (wc : WC K C) (mb : MB mg) (mc : MC K mg) (f_line_value : Fn P w K mg base "line_value" 6 2 [] W_line_value) : FnOk P w K mg base CX0 7 f fd ["self", "line"] (spW K 2 (W_write C)) := by
  refine fnok_mk (N := ["self", "line"]) (Gs := ["line_value", "len"]) (Vi := [0, 1]) Fu ⟨rfl, rfl, rfl, by decide +kernel, rfl, by decide +kernel, by decide +kernel⟩ (by decide +kernel) rfl ?_
  rintro X F want ds R c hsc ⟨dx, many, k, l, w, r, known, lines, ln, rfl, rfl, hf, hk, hl2, rfl⟩ hl hF
  show SL X F _ [some _, some _] _ _ _
  refine sl_cons (ss_expr ?_)
  refine ee_append ?_
  refine ee_self c (i := 0) rfl rfl rfl wc.cls wc.n_known (by repeat (first | exact Has.here | apply Has.there)) (by rfl) ?_
  refine ⟨_, _, rfl, .there .here, ?_⟩
  refine ee_call c (i := 0) f_line_value (by decide) rfl ?_
  refine ea_cons ?_
  refine ee_self c (i := 0) rfl rfl rfl wc.cls wc.n_known (by repeat (first | exact Has.here | apply Has.there)) (by rfl) ?_
  refine ea_cons ?_
  refine ee_var c (i := 1) rfl rfl rfl ?_
  refine ea_nil ?_
  refine ⟨_, _, _, .rd (.there .here) (.nil _), ⟨known, ln, _, rfl, rfl, hf, rfl⟩, rfl, ?_⟩
  rintro _ _ ⟨rfl, rfl⟩
  refine ⟨_, _, .here, by rw [List.length_map]; have := sizeLine_big; omega, ?_⟩
  refine sl_cons (ss_expr ?_)
  refine ee_append ?_
  refine ee_self c (i := 0) rfl rfl rfl wc.cls wc.n_lines (by repeat (first | exact Has.here | apply Has.there)) (by rfl) ?_
  refine ⟨_, _, rfl, (by repeat (first | exact Has.here | apply Has.there)), ?_⟩
  refine ee_var c (i := 1) rfl rfl rfl ?_
  refine ⟨_, _, (by repeat (first | exact Put.here | apply Put.there)), by rw [List.length_map]; have := sizeLine_big; omega, ?_⟩
  refine sl_cons (ss_ret ?_)
  refine ee_sub ?_
  refine ee_lenL c (i := 1) rfl mb.len ?_
  refine ee_self c (i := 0) rfl rfl rfl wc.cls wc.n_known (by repeat (first | exact Has.here | apply Has.there)) (by rfl) ?_
  refine ⟨_, _, rfl, (by repeat (first | exact Has.here | apply Has.there)), ?_⟩
  refine ee_int ?_
  refine ⟨_, _, rfl, rfl, ?_⟩
  refine ⟨_, .cons_cons _ (.cons _ (.refl _)), fun e he => by simp at he; rcases he with rfl | rfl <;> rfl, ?_, ?_⟩
  · congr 1
    simp only [List.length_append, List.length_map, List.length_cons, List.length_nil]
    omega
  · simp only [List.map_append]; rfl
def W_step_of (C : Addr) : Spec := fun want ds R => ∃ (dx : Addr) (many : Nat) (k l w : Addr) (r : List (Str × D)) (known : List Sy) (n : Nat) (g : Sy), want = [⟨w, false, .ins C dx (fsW many k l r)⟩, ⟨k, false, .lst (known.map dS)⟩] ∧ ds = [.ref w, .int (n : Nat)] ∧ known[n]? = some g ∧ R = fun d st => d = dV g.2 ∧ st = []
theorem ok_step_of {f C : Addr} {fd : FuncData} (Fu : MetT K "step_of" "Writer.step_of" 60 3 f fd) (wc : WC K C) (mb : MB mg) (mc : MC K mg) (f_offset : Fn P w K mg base "offset" 1 1 [] W_offset) : FnOk P w K mg base CX0 2 f fd ["self", "reference"] (spW K 2 (W_step_of C)) := by
  refine fnok_mk (N := ["self", "reference"]) (Gs := ["offset"]) (Vi := [0, 1]) Fu ⟨rfl, rfl, rfl, by decide +kernel, rfl, by decide +kernel, by decide +kernel⟩ (by decide +kernel) rfl ?_
  rintro X F want ds R c hsc ⟨dx, many, k, l, w, r, known, n, g, rfl, rfl, hg, rfl⟩ hl hF
  show SL X F _ [some _, some _] _ _ _
  refine sl_cons (ss_ret ?_)
  refine ee_pcall c (i := 0) f_offset (by decide) rfl ?_
  refine ea_cons ?_
  refine ee_ixL ?_
  refine ee_self c (i := 0) rfl rfl rfl wc.cls wc.n_known (by repeat (first | exact Has.here | apply Has.there)) (by rfl) ?_
  refine ee_var c (i := 1) rfl rfl rfl ?_
  refine ⟨_, _, _, dS g, rfl, (by repeat (first | exact Has.here | apply Has.there)), rfl, atI_nat (by rw [List.getElem?_map, hg]; rfl), ?_⟩
  refine ea_nil ?_
  refine ⟨_, ⟨g, rfl, rfl⟩, rfl, ?_⟩
  rintro _ rfl
  exact .pure ⟨rfl, rfl⟩
end G
end
section
set_option Elab.async false
set_option linter.all false
set_option maxRecDepth 100000
set_option maxHeartbeats 4000000
namespace G
open PySem L2
variable {P : Program} {w : World} {K : PySem.W.Frag} {mg : Str → Option Value} {base : Heap}
def W_divided (C : Addr) : Spec := fun want ds R => ∃ (gs : List Sy) (dx : Addr) (many : Nat) (k l w : Addr) (r : List (Str × D)) (known : List Sy) (lines : List Ln) (a b i : Nat) (Inv : V2 → V2 → Nat → Prop) (u v : V2) (m0 : Nat),
  want = [⟨w, false, .ins C dx (fsW many k l r)⟩, ⟨k, true, .lst (known.map dS)⟩, ⟨l, true, .lst (lines.map dL)⟩] ∧ ds = [.ref w, .int (a : Nat), .int (b : Nat), .int (i : Nat)] ∧ (i = 0 ∨ i = 1) ∧ Rw r ∧ WS gs known lines ∧ gs.length ≤ 6 ∧ lines.length + m0 < 4194304 ∧
  known[a]? = some (0, u) ∧ known[b]? = some (0, v) ∧ Inv u v m0 ∧ (∀ u v m, Inv u v m → BV 50000 u ∧ BV 50000 v ∧ Bt 8000 (cmp i v)) ∧ (∀ u v m, Inv u v m → cmp i v ≠ 0 → ∃ m', m' < m ∧ Inv v (vadd u (smul (0 - (cmp i u).fdiv (cmp i v)) v)) m') ∧
  R = fun d st => ∃ (a' b' : Nat) (known' : List Sy) (lines' : List Ln) (u' v' : V2) (m' : Nat), d = .tup [.int (a' : Nat), .int (b' : Nat)] ∧ st = [⟨k, true, .lst (known'.map dS)⟩, ⟨l, true, .lst (lines'.map dL)⟩] ∧ WS gs known' lines' ∧ (∃ ext, known' = known ++ ext) ∧
    known'[a']? = some (0, u') ∧ known'[b']? = some (0, v') ∧ Inv u' v' m' ∧ cmp i v' = 0 ∧ lines'.length + m' ≤ lines.length + m0
theorem ok_divided {f C : Addr} {fd : FuncData} (Fu : MetT K "divided" "Writer.divided" 60 4 f fd) (wc : WC K C) (mb : MB mg) (mc : MC K mg) (f_step_of : Mt P w K mg base C "step_of" 2 2 (W_step_of C)) (f_write : Mt P w K mg base C "write" 7 2 (W_write C)) : FnOk P w K mg base CX0 8 f fd ["self", "one", "other", "index"] (spW K 4 (W_divided C)) := by
  refine fnok_mk (N := ["self", "one", "other", "index", "times"]) (Gs := []) (Vi := [0, 1, 2, 3, 4]) Fu ⟨rfl, rfl, rfl, by decide +kernel, rfl, by decide +kernel, by decide +kernel⟩ (by decide +kernel) rfl ?_
  rintro X F want ds R c hsc ⟨gs, dx, many, k, l, w, r, known, lines, a, b, i, Inv, u, v, m0, rfl, rfl, hi, hr, hW, hg6, hlm, ha, hb, hI, hBd, hSt, rfl⟩ hl hF
  show SL X F _ [some _, some _, some _, some _, none] _ _ _
  refine sl_cons (ss_while c (fun m en st => ∃ (known1 : List Sy) (lines1 : List Ln) (a1 b1 : Nat) (u1 v1 : V2) (o5 : Option D), en = [some (.ref w), some (.int (a1 : Nat)), some (.int (b1 : Nat)), some (.int (i : Nat)), o5] ∧ st = [⟨w, false, .ins C dx (fsW many k l r)⟩, ⟨k, true, .lst (known1.map dS)⟩, ⟨l, true, .lst (lines1.map dL)⟩] ∧ WS gs known1 lines1 ∧ (∃ ext, known1 = known ++ ext) ∧ known1[a1]? = some (0, u1) ∧ known1[b1]? = some (0, v1) ∧ Inv u1 v1 m ∧ lines1.length + m ≤ lines.length + m0) ⟨m0, known, lines, a, b, u, v, none, rfl, rfl, hW, ⟨[], by simp⟩, ha, hb, hI, Nat.le_refl _⟩ ?_)
  rintro m en1 st1 ⟨known1, lines1, a1, b1, u1, v1, o5, rfl, rfl, hW1, ⟨ext, hext⟩, ha1, hb1, hI1, hm1⟩
  obtain ⟨hbu, hbv, hbc⟩ := hBd _ _ _ hI1
  have hkl := hW1.klen
  refine et_neI ?_
  refine ee_ixT ?_
  refine ee_smeth c f_step_of wc.cls (by decide) (i := 0) rfl rfl rfl (by repeat (first | exact Has.here | apply Has.there)) (by exact hr.step_of) ?_
  refine ea_cons ?_
  refine ee_var c (i := 2) rfl rfl rfl ?_
  refine ea_nil ?_
  refine ⟨_, _, _, .rd (by repeat (first | exact OutA.here | apply OutA.there)) (.rd (by repeat (first | exact OutA.here | apply OutA.there)) (.nil _)), ⟨dx, many, k, l, w, r, known1, b1, (0, v1), rfl, rfl, hb1, rfl⟩, rfl, ?_⟩
  rintro _ _ ⟨rfl, rfl⟩
  refine ee_var c (i := 3) rfl rfl rfl ?_
  refine ⟨_, _, _, rfl, rfl, atCmp hi v1, ?_⟩
  refine ee_int ?_
  refine ⟨_, _, rfl, rfl, ?_⟩
  refine ⟨fun h1 => ?_, fun h1 => ?_⟩
  · refine isT ?_
    refine sl_cons (ss_set c (i := 4) rfl rfl ?_)
    refine ee_fdiv ?_
    refine ee_ixT ?_
    refine ee_smeth c f_step_of wc.cls (by decide) (i := 0) rfl rfl rfl (by repeat (first | exact Has.here | apply Has.there)) (by exact hr.step_of) ?_
    refine ea_cons ?_
    refine ee_var c (i := 1) rfl rfl rfl ?_
    refine ea_nil ?_
    refine ⟨_, _, _, .rd (by repeat (first | exact OutA.here | apply OutA.there)) (.rd (by repeat (first | exact OutA.here | apply OutA.there)) (.nil _)), ⟨dx, many, k, l, w, r, known1, a1, (0, u1), rfl, rfl, ha1, rfl⟩, rfl, ?_⟩
    rintro _ _ ⟨rfl, rfl⟩
    refine ee_var c (i := 3) rfl rfl rfl ?_
    refine ⟨_, _, _, rfl, rfl, atCmp hi u1, ?_⟩
    refine ee_ixT ?_
    refine ee_smeth c f_step_of wc.cls (by decide) (i := 0) rfl rfl rfl (by repeat (first | exact Has.here | apply Has.there)) (by exact hr.step_of) ?_
    refine ea_cons ?_
    refine ee_var c (i := 2) rfl rfl rfl ?_
    refine ea_nil ?_
    refine ⟨_, _, _, .rd (by repeat (first | exact OutA.here | apply OutA.there)) (.rd (by repeat (first | exact OutA.here | apply OutA.there)) (.nil _)), ⟨dx, many, k, l, w, r, known1, b1, (0, v1), rfl, rfl, hb1, rfl⟩, rfl, ?_⟩
    rintro _ _ ⟨rfl, rfl⟩
    refine ee_var c (i := 3) rfl rfl rfl ?_
    refine ⟨_, _, _, rfl, rfl, atCmp hi v1, ?_⟩
    refine ⟨_, _, rfl, rfl, hbc.divOk h1 (by omega), ?_⟩
    refine ⟨_, (.there (.there (.there (.there .here)))), ?_⟩
    refine sl_cons (ss_par2 c (i := 1) (j := 2) rfl rfl rfl rfl (by rw [hsc]; rfl) (by rw [hsc]; rfl) ?_)
    refine ea_cons ?_
    refine ee_var c (i := 2) rfl rfl rfl ?_
    refine ea_cons ?_
    refine ee_smeth c f_write wc.cls (by decide) (i := 0) rfl rfl rfl (by repeat (first | exact Has.here | apply Has.there)) (by exact hr.write) ?_
    refine ea_cons ?_
    refine ee_tup ?_
    refine ea_cons ?_
    refine ee_tup ?_
    refine ea_cons ?_
    refine ee_var c (i := 1) rfl rfl rfl ?_
    refine ea_cons ?_
    refine ee_int ?_
    refine ea_nil ?_
    refine ⟨Nat.le_of_ble_eq_true rfl, ?_⟩
    refine ea_cons ?_
    refine ee_tup ?_
    refine ea_cons ?_
    refine ee_var c (i := 2) rfl rfl rfl ?_
    refine ea_cons ?_
    refine ee_sub ?_
    refine ee_int ?_
    refine ee_var c (i := 4) rfl rfl rfl ?_
    refine ⟨_, _, rfl, rfl, ?_⟩
    refine ea_nil ?_
    refine ⟨Nat.le_of_ble_eq_true rfl, ?_⟩
    refine ea_nil ?_
    refine ⟨Nat.le_of_ble_eq_true rfl, ?_⟩
    refine ea_nil ?_
    obtain ⟨m2, hm2, hI2⟩ := hSt _ _ _ hI1 h1
    have hbt : Bt 50000 (0 - (cmp i u1).fdiv (cmp i v1)) := by
      rw [Int.zero_sub]
      exact (Bt.fdiv (by unfold cmp; split; exact hbu.1; exact hbu.2)).neg
    have hfo : ∀ f ∈ [(a1, (1 : Int)), (b1, 0 - (cmp i u1).fdiv (cmp i v1))], FOk known1 f := fun f hf => by
      simp only [List.mem_cons, List.not_mem_nil, or_false] at hf
      rcases hf with rfl | rfl
      · exact fok_of ha1 (hbu.mono (by omega)) (bt1 (by decide))
      · exact fok_of hb1 (hbv.mono (by omega)) (hbt.mono (by omega))
    refine ⟨_, _, _, .rd (by repeat (first | exact OutA.here | apply OutA.there)) (.wr (by repeat (first | exact OutA.here | apply OutA.there)) (.wr (by repeat (first | exact OutA.here | apply OutA.there)) (.nil _))), ⟨dx, many, k, l, w, r, known1, lines1, [(a1, 1), (b1, 0 - (cmp i u1).fdiv (cmp i v1))], rfl, rfl, hfo, by omega, by omega, rfl⟩, rfl, ?_⟩
    rintro _ _ ⟨rfl, rfl⟩
    refine ea_nil ?_
    refine ⟨_, _, _, _, rfl, (.there .here), (.there (.there .here)), ?_⟩
    refine sl_pm (List.perm_append_comm (l₁ := [_, _]) (l₂ := [_])) ?_
    refine sl_nil ?_
    refine ⟨m2, hm2, _, _, b1, known1.length, v1, _, _, rfl, rfl, hW1.snoc (by omega) (by simp) hfo, ⟨ext ++ [lineVal known1 [(a1, 1), (b1, 0 - (cmp i u1).fdiv (cmp i v1))]], by rw [hext, List.append_assoc]⟩, get_ext hb1, ?_, hI2, by simp only [List.length_append, List.length_cons, List.length_nil]; omega⟩
    rw [lv_div ha1 hb1]
    exact get_last
  · refine isF ?_
    refine sl_cons (ss_ret ?_)
    refine ee_tup ?_
    refine ea_cons ?_
    refine ee_var c (i := 1) rfl rfl rfl ?_
    refine ea_cons ?_
    refine ee_var c (i := 2) rfl rfl rfl ?_
    refine ea_nil ?_
    refine ⟨Nat.le_of_ble_eq_true rfl, ?_⟩
    exact ⟨_, .cons _ (.refl _), fun e he => by simp at he; rcases he with rfl | rfl <;> rfl, a1, b1, known1, lines1, u1, v1, m, rfl, rfl, hW1, ⟨ext, hext⟩, ha1, hb1, hI1, by omega, hm1⟩
end G
end
section
set_option Elab.async false
set_option linter.all false
set_option maxRecDepth 100000
set_option maxHeartbeats 4000000
namespace G
open PySem L2
variable {P : Program} {w : World} {K : PySem.W.Frag} {mg : Str → Option Value} {base : Heap}
def W_written_samples (C : Addr) : Spec := fun want ds R => ∃ (n : Nat) (gs : List Sy) (dx k l w : Addr) (r : List (Str × D)),
  want = [⟨w, false, .ins C dx (fsW gs.length k l r)⟩, ⟨k, true, .lst (gs.map dS)⟩, ⟨l, true, .lst []⟩] ∧ ds = [.ref w] ∧ Rw r ∧ GB n gs ∧ n ≤ 90 ∧
  R = fun d st => ∃ (s : Addr) (ps : List (Sy × Nat)) (known : List Sy) (lines : List Ln), d = .ref s ∧ st = [⟨s, true, .dic (kvP ps)⟩, ⟨k, true, .lst (known.map dS)⟩, ⟨l, true, .lst (lines.map dL)⟩] ∧ WS gs known lines ∧ SM n gs (ps.map Prod.fst) ∧ (∀ p ∈ ps, known[p.2]? = some p.1) ∧ lines.length ≤ 8
theorem ok_written_samples {f C : Addr} {fd : FuncData} (Fu : MetT K "written_samples" "Writer.written_samples" 60 2 f fd) (wc : WC K C) (mb : MB mg) (mc : MC K mg) (f_write : Mt P w K mg base C "write" 7 2 (W_write C)) (f_kind_after : Fn P w K mg base "kind_after" 2 2 [] W_kind_after) : FnOk P w K mg base CX0 8 f fd ["self"] (spW K 1 (W_written_samples C)) := by
  refine fnok_mk (N := ["self", "found", "waiting", "here", "index", "there"]) (Gs := ["SHIFT", "range", "kind_after"]) (Vi := [0, 1, 2, 3, 4, 5]) Fu ⟨rfl, rfl, rfl, by decide +kernel, rfl, by decide +kernel, by decide +kernel⟩ (by decide +kernel) rfl ?_
  rintro X F want ds R c hsc ⟨n, gs, dx, k, l, w, r, rfl, rfl, hr, hg, hn90, rfl⟩ hl hF
  show SL X F _ [some _, none, none, none, none, none] _ _ _
  refine sl_cons (ss_par2 c (i := 1) (j := 2) rfl rfl rfl rfl (by rw [hsc]; rfl) (by rw [hsc]; rfl) ?_)
  refine ea_cons ?_
  refine ee_disp1 c fun p1 => ?_
  refine ee_glob c (j := 0) mc.SHIFT rfl ?_
  refine ee_smeth c f_write wc.cls (by decide) (i := 0) rfl rfl rfl (by repeat (first | exact Has.here | apply Has.there)) (by exact hr.write) ?_
  refine ea_cons ?_
  refine ee_tup ?_
  refine ea_nil ?_
  refine ⟨Nat.le_of_ble_eq_true rfl, ?_⟩
  refine ea_nil ?_
  have hg6 := hg.1
  refine ⟨_, _, _, .rd (by repeat (first | exact OutA.here | apply OutA.there)) (.wr (by repeat (first | exact OutA.here | apply OutA.there)) (.wr (by repeat (first | exact OutA.here | apply OutA.there)) (.nil _))), ⟨dx, _, k, l, w, r, gs, [], [], rfl, rfl, fun f hf => (nomatch hf), by omega, by decide, rfl⟩, rfl, ?_⟩
  rintro _ _ ⟨rfl, rfl⟩
  refine ⟨_, _, rfl, (by repeat (first | exact Put.here | apply Put.there)), ?_⟩
  refine ea_cons ?_
  refine ee_lst ?_
  refine ea_cons ?_
  refine ee_glob c (j := 0) mc.SHIFT rfl ?_
  refine ea_nil ?_
  refine ⟨Nat.le_of_ble_eq_true rfl, fun p2 => ?_⟩
  refine ea_nil ?_
  refine ⟨_, _, _, _, rfl, (.there .here), (.there (.there .here)), ?_⟩
  refine sl_pm (.cons _ ((List.perm_append_comm (l₁ := [_, _]) (l₂ := [_, _])).trans (.swap _ _ _))) ?_
  refine sl_cons (ss_while c (fun m en st => ∃ (ps : List (Sy × Nat)) (ws known : List Sy) (lines : List Ln) (o3 o4 o5 : Option D), en = [some (.ref w), some (.ref p1), some (.ref p2), o3, o4, o5] ∧ st = [⟨p2, true, .lst ((ws.map Prod.fst).map dK)⟩, ⟨p1, true, .dic (kvP ps)⟩, ⟨w, false, .ins C dx (fsW gs.length k l r)⟩, ⟨k, true, .lst (known.map dS)⟩, ⟨l, true, .lst (lines.map dL)⟩] ∧ SJ n gs (ps.map Prod.fst) ws none 0 ∧ WS gs known lines ∧ (∀ p ∈ ps, known[p.2]? = some p.1) ∧ lines.length = ps.length ∧ m = 16 - 2 * ps.length + ws.length ∧ m ≤ 15) ⟨_, [(one, gs.length)], [one], gs ++ [one], [[]], none, none, none, rfl, rfl, .init, WS.init.snoc (l := []) (by decide) (by simp) (fun f hf => (nomatch hf)), fun p hp => by simp at hp; subst hp; exact get_last, rfl, rfl, by simp⟩ ?_)
  rintro m en1 st1 ⟨ps, ws, known, lines, o3, o4, o5, rfl, rfl, hJ, hW, hps, hln, rfl, hm15⟩
  refine et_neNil c ?_
  refine ee_var c (i := 2) rfl rfl rfl ?_
  refine ⟨_, _, rfl, .here, by first | rfl | exact pls_dSl _ | exact pls_dVl _ | exact pls_ints _ | exact pls_dKl _, ?_⟩
  refine ⟨fun h3 => ?_, fun h3 => ?_⟩
  · refine isT ?_
    refine sl_cons (ss_set c (i := 3) rfl rfl ?_)
    refine ee_pop0 ?_
    refine ee_var c (i := 2) rfl rfl rfl ?_
    obtain ⟨h0, rr, rfl⟩ : ∃ h0 r, ws = h0 :: r := by
      cases ws with
      | nil => exact absurd rfl h3
      | cons a b => exact ⟨a, b, rfl⟩
    refine ⟨p2, dK h0.1, (rr.map Prod.fst).map dK, _, rfl, .here, ?_⟩
    refine ⟨_, (.there (.there (.there .here))), ?_⟩
    refine sl_cons (ss_for c (vs := [4]) ?_)
    refine ei_rng c (j := 1) rfl mb.range ?_
    refine ee_self c (i := 0) rfl rfl rfl wc.cls wc.n_many (by repeat (first | exact Has.here | apply Has.there)) (by rfl) ?_
    refine ⟨_, rfl, by omega, by have := hg.1; omega, ?_⟩
    refine ⟨fun j en st => ∃ (ps1 : List (Sy × Nat)) (ws1 known1 : List Sy) (lines1 : List Ln) (o4 o5 : Option D), en = [some (.ref w), some (.ref p1), some (.ref p2), some (dK h0.1), o4, o5] ∧ st = [⟨p2, true, .lst ((ws1.map Prod.fst).map dK)⟩, ⟨p1, true, .dic (kvP ps1)⟩, ⟨w, false, .ins C dx (fsW gs.length k l r)⟩, ⟨k, true, .lst (known1.map dS)⟩, ⟨l, true, .lst (lines1.map dL)⟩] ∧ SJ n gs (ps1.map Prod.fst) ws1 (some h0) j ∧ WS gs known1 lines1 ∧ (∀ p ∈ ps1, known1[p.2]? = some p.1) ∧ lines1.length = ps1.length ∧ 16 - 2 * ps1.length + ws1.length ≤ 16 - 2 * ps.length + rr.length, ⟨ps, rr, known, lines, o4, o5, rfl, rfl, hJ.pop, hW, hps, hln, Nat.le_refl _⟩, fun _ _ _ _ _ => trivial, ?_, ?_⟩
    · rintro j d en2 st2 hd ⟨ps1, ws1, known1, lines1, o4, o5, rfl, rfl, hK, hW1, hps1, hln1, hm⟩
      obtain ⟨hj, rfl⟩ := rangeGet hd
      have hj : j < gs.length := by omega
      have hgj : gs[j]? = some gs[j] := by simp [hj]
      generalize gs[j] = g at hgj
      have hbg := hg.2 g (List.mem_of_getElem? hgj)
      have hl1 := hK.len
      rw [List.length_map] at hl1
      have hkl := hW1.klen
      have hg6 := hg.1
      have hkg := hW1.gen hgj
      refine eg_name c (i := 4) rfl rfl (by decide) (.there (.there (.there (.there .here)))) ?_
      refine sl_cons (ss_set c (i := 5) rfl rfl ?_)
      refine ee_pcall c (i := 2) f_kind_after (by decide) rfl ?_
      refine ea_cons ?_
      refine ee_var c (i := 3) rfl rfl rfl ?_
      refine ea_cons ?_
      refine ee_ixT ?_
      refine ee_ixL ?_
      refine ee_self c (i := 0) rfl rfl rfl wc.cls wc.n_known (by repeat (first | exact Has.here | apply Has.there)) (by rfl) ?_
      refine ee_var c (i := 4) rfl rfl rfl ?_
      refine ⟨_, _, _, dS g, rfl, (by repeat (first | exact Has.here | apply Has.there)), rfl, atI_nat (by rw [List.getElem?_map, hkg]; rfl), ?_⟩
      refine ee_int ?_
      refine ⟨_, _, _, rfl, rfl, rfl, ?_⟩
      refine ea_nil ?_
      refine ⟨_, ⟨h0.1, g.1, rfl, rfl⟩, rfl, ?_⟩
      rintro _ rfl
      refine ⟨_, (.there (.there (.there (.there (.there .here))))), ?_⟩
      refine sl_cons (ss_if ?_)
      refine et_dnin c ?_
      refine ee_var c (i := 5) rfl rfl rfl ?_
      refine ee_var c (i := 1) rfl rfl rfl ?_
      refine ⟨_, _, _, rfl, rfl, (by repeat (first | exact Has.here | apply Has.there)), ?_, ?_⟩
      · intro h4
        refine isT ?_
        refine sl_cons (ss_dput c ?_)
        refine ee_smeth c f_write wc.cls (by decide) (i := 0) rfl rfl rfl (by repeat (first | exact Has.here | apply Has.there)) (by exact hr.write) ?_
        refine ea_cons ?_
        refine ee_tup ?_
        refine ea_cons ?_
        refine ee_tup ?_
        refine ea_cons ?_
        refine ee_dget c ?_
        refine ee_var c (i := 1) rfl rfl rfl ?_
        refine ee_var c (i := 3) rfl rfl rfl ?_
        have hh0 := (hK.hh h0 rfl).1
        obtain ⟨pp, hpp, hlk, hsm⟩ := kvP_get (ps := ps1) (k := h0.1) ⟨h0, hh0, rfl⟩
        rw [smp_eq hK.nd hh0] at hsm
        have hkp := hps1 pp hpp
        rw [hsm] at hkp
        refine ⟨_, _, _, .int (pp.2 : Nat), rfl, rfl, (by repeat (first | exact Has.here | apply Has.there)), hlk, ?_⟩
        refine ea_cons ?_
        refine ee_int ?_
        refine ea_nil ?_
        refine ⟨Nat.le_of_ble_eq_true rfl, ?_⟩
        refine ea_cons ?_
        refine ee_tup ?_
        refine ea_cons ?_
        refine ee_var c (i := 4) rfl rfl rfl ?_
        refine ea_cons ?_
        refine ee_int ?_
        refine ea_nil ?_
        refine ⟨Nat.le_of_ble_eq_true rfl, ?_⟩
        refine ea_nil ?_
        refine ⟨Nat.le_of_ble_eq_true rfl, ?_⟩
        refine ea_nil ?_
        have hno := kvP_none (k := kmul h0.1 g.1) h4
        have hb0 : BV (n + 4) h0.2 := Ab.bv ((hK.bd h0 hh0).mono (Nat.mul_le_mul_right _ hK.len))
        have hfo : ∀ f ∈ [(pp.2, (1 : Int)), (j, 1)], FOk known1 f := fun f hf => by
          simp only [List.mem_cons, List.not_mem_nil, or_false] at hf
          rcases hf with rfl | rfl
          · exact fok_of hkp (hb0.mono (by omega)) (bt1 (by decide))
          · exact fok_of hkg (hbg.mono (by omega)) (bt1 (by decide))
        refine ⟨_, _, _, .rd (by repeat (first | exact OutA.here | apply OutA.there)) (.wr (by repeat (first | exact OutA.here | apply OutA.there)) (.wr (by repeat (first | exact OutA.here | apply OutA.there)) (.nil _))), ⟨dx, _, k, l, w, r, known1, lines1, [(pp.2, 1), (j, 1)], rfl, rfl, hfo, by omega, by omega, rfl⟩, rfl, ?_⟩
        rintro _ _ ⟨rfl, rfl⟩
        refine ee_var c (i := 1) rfl rfl rfl ?_
        refine ee_var c (i := 5) rfl rfl rfl ?_
        refine ⟨_, _, _, _, rfl, rfl, (by repeat (first | exact Put.here | apply Put.there)), h4, by rw [kvP, List.length_map]; have := sizeLine_big; omega, ?_⟩
        refine sl_cons (ss_expr ?_)
        refine ee_append ?_
        refine ee_var c (i := 2) rfl rfl rfl ?_
        refine ⟨_, _, rfl, (by repeat (first | exact Has.here | apply Has.there)), ?_⟩
        refine ee_var c (i := 5) rfl rfl rfl ?_
        have hnew := hK.new hgj hbg hno
        have hwl : ws1.length ≤ 64 := by simp only [List.length_cons] at hm15; omega
        refine ⟨_, _, (by repeat (first | exact Put.here | apply Put.there)), by rw [List.length_map, List.length_map]; have := sizeLine_big; omega, ?_⟩
        refine sl_pm ((List.perm_append_comm (l₁ := [_, _, _]) (l₂ := [_, _])).trans (.cons _ (.cons _ (List.perm_append_comm (l₁ := [_, _]) (l₂ := [_]))))) ?_
        refine sl_nil ?_
        refine sl_nil ?_
        refine ⟨ps1 ++ [(mul h0 g, known1.length)], ws1 ++ [mul h0 g], _, _, _, _, rfl, ?_, ?_, hW1.snoc (by omega) (by simp) hfo, ?_, ?_, ?_⟩
        · rw [← kvP_snoc]; simp only [List.map_append]; rfl
        · rw [List.map_append]; exact hnew
        · intro p hp
          rcases List.mem_append.mp hp with hp | hp
          · exact get_ext (hps1 p hp)
          · simp at hp; subst hp
            rw [lv_samp hkp hkg]; exact get_last
        · simp [hln1]
        · have := hnew.len
          simp only [List.length_append, List.length_cons, List.length_nil, List.length_map] at *
          omega
      · intro dh4 h4
        refine isF ?_
        refine sl_nil ?_
        refine sl_nil ?_
        exact ⟨ps1, ws1, known1, lines1, _, _, rfl, rfl, hK.old hgj (kvP_some h4), hW1, hps1, hln1, hm⟩
    · rintro en2 st2 ⟨ps1, ws1, known1, lines1, o4, o5, rfl, rfl, hK, hW1, hps1, hln1, hm⟩
      rw [List.length_map, List.length_range, Int.toNat_natCast] at hK
      refine sl_nil ?_
      have hl2 := hK.len
      rw [List.length_map] at hl2
      refine ⟨_, ?_, ps1, ws1, known1, lines1, _, _, _, rfl, rfl, hK.next, hW1, hps1, hln1, rfl, ?_⟩ <;> simp only [List.length_cons] at * <;> omega
  · refine isF ?_
    refine sl_cons (ss_ret ?_)
    refine ee_var c (i := 1) rfl rfl rfl ?_
    have hw0 : ws = [] := by
      cases ws with
      | nil => rfl
      | cons a b => exact absurd (fun z => nomatch z) h3
    subst hw0
    have hl2 := hJ.len
    rw [List.length_map] at hl2
    exact ⟨[⟨p1, true, .dic (kvP ps)⟩, ⟨k, true, .lst (known.map dS)⟩, ⟨l, true, .lst (lines.map dL)⟩], .cons _ (.cons_cons _ (.cons _ (.refl _))), fun e he => by simp at he; rcases he with rfl | rfl | rfl <;> rfl, p1, ps, known, lines, rfl, rfl, hW, hJ.done, hps, by omega⟩
end G
end
section
set_option Elab.async false
set_option linter.all false
set_option maxRecDepth 100000
set_option maxHeartbeats 4000000
/-! W3: the Writer's steps. -/
namespace G
open PySem L2
theorem flat_get {α β γ : Type} {f : α → β → γ} {ys : List β} {j : Nat} {y : β} (hy : ys[j]? = some y) : ∀ {xs : List α} {i : Nat} {x : α}, xs[i]? = some x → (xs.flatMap fun x => ys.map (f x))[i * ys.length + j]? = some (f x y)
  | [], i, x, h => by simp at h
  | z :: zs, 0, x, h => by
    simp at h; subst h
    rw [List.flatMap_cons, Nat.zero_mul, Nat.zero_add, List.getElem?_append_left (by rw [List.length_map]; exact getLt hy), List.getElem?_map, hy]; rfl
  | z :: zs, i + 1, x, h => by
    rw [List.flatMap_cons, List.getElem?_append_right (by rw [List.length_map, Nat.add_mul]; omega), List.length_map]
    have e : (i + 1) * ys.length + j - ys.length = i * ys.length + j := by rw [Nat.add_mul]; omega
    rw [e]
    exact flat_get hy (by simpa using h)
theorem off_get {gs ss : List Sy} {i j : Nat} {s g : Sy} (hs : ss[i]? = some s) (hg : gs[j]? = some g) : (offs gs ss)[i * gs.length + j]? = some (sft ss s g).2 := by
  unfold offs shifts
  rw [List.getElem?_map, flat_get hg hs]; rfl
theorem offs_len {gs ss : List Sy} : (offs gs ss).length = ss.length * gs.length := by unfold offs shifts; rw [List.length_map, len_flat]
theorem BI.skip {s : Nat} {vs : List V2} {i : Nat} {f v : V2} {l : Int} (h : BI s vs i f l) (hv : vs[i]? = some v) (hin : Sp [f, (0, l)] v) : BI s vs (i + 1) f l := by
  refine ⟨h.f0, h.l0, fun u => ?_, h.bx, h.by'.mono (bi_mono (Nat.le_succ _))⟩
  rw [takeS hv, h.sp]
  refine sp_eq ?_ ?_ u
  · intro w hw; exact .mem (List.mem_append_left _ hw)
  · intro w hw
    rcases List.mem_append.mp hw with hw | hw
    · exact .mem hw
    · simp at hw; subst hw; exact (h.sp _).mp hin
theorem sp_abs (f : V2) (y : Int) (u : V2) : Sp [f, (0, (y.natAbs : Int))] u ↔ Sp [f, (0, y)] u := by
  rcases Int.natAbs_eq y with e | e
  · rw [← e]
  · have e2 : (0, (y.natAbs : Int)) = vneg (0, y) := by refine v2_ext ?_ ?_ <;> simp only [vneg] <;> omega
    have e3 : (0, y) = vneg (0, (y.natAbs : Int)) := by refine v2_ext ?_ ?_ <;> simp only [vneg] <;> omega
    refine sp_eq ?_ ?_ u
    · intro v hv
      simp only [List.mem_cons, List.not_mem_nil, or_false] at hv
      rcases hv with rfl | rfl
      · exact .mem (by simp)
      · rw [e2]; exact Sp.neg (.mem (by simp))
    · intro v hv
      simp only [List.mem_cons, List.not_mem_nil, or_false] at hv
      rcases hv with rfl | rfl
      · exact .mem (by simp)
      · conv => rhs; rw [e3]
        exact Sp.neg (.mem (by simp))
theorem euc_eq (u v : V2) : vadd u (smul (0 - (cmp 0 u).fdiv (cmp 0 v)) v) = euc u v := by
  refine v2_ext ?_ ?_ <;> simp only [vadd, smul, euc, cmp, if_true] <;> grind
/-- the state of the steps after t shifts -/
structure ST (n t : Nat) (vs : List V2) (s0 s1 : V2) : Prop where
  B : BI (n + 6) vs t s0 (s1.2.natAbs : Int)
  x1 : s1.1 = 0
  b1 : Bt (G.bi (n + 6) t) s1.2
def Inv0 (n t : Nat) (vs : List V2) (l : Int) (u v : V2) (m : Nat) : Prop := WI (n + 6) vs (t + 1) u v l ∧ m = v.1.natAbs
def Inv1 (B : Nat) (g : Nat) (u v : V2) (m : Nat) : Prop := u.1 = 0 ∧ v.1 = 0 ∧ Int.gcd u.2 v.2 = g ∧ Bt B u.2 ∧ Bt B v.2 ∧ m = mu u.2 v.2
theorem bi_le {n t : Nat} (hn : n ≤ 6) (ht : t ≤ 48) : bi (n + 6) t ≤ 700 := by
  unfold bi
  have h1 : (n + 6 + 1) * t ≤ 13 * 48 := Nat.mul_le_mul (by omega) ht
  omega
theorem inv0_bd {n t : Nat} {vs : List V2} {l : Int} (hn : n ≤ 6) (ht : t + 1 ≤ 48) : ∀ u v m, Inv0 n t vs l u v m → BV 50000 u ∧ BV 50000 v ∧ Bt 8000 (cmp 0 v) := by
  rintro u v m ⟨h, rfl⟩
  have hb := bi_le (n := n) hn ht
  exact ⟨⟨h.bx.mono (by omega), h.by'.mono (by omega)⟩, ⟨h.gx.mono (by omega), h.gy.mono (by omega)⟩, h.gx.mono (by omega)⟩
theorem inv0_st {n t : Nat} {vs : List V2} {l : Int} : ∀ u v m, Inv0 n t vs l u v m → cmp 0 v ≠ 0 → ∃ m', m' < m ∧ Inv0 n t vs l v (vadd u (smul (0 - (cmp 0 u).fdiv (cmp 0 v)) v)) m' := by
  rintro u v m ⟨h, rfl⟩ hv
  have hv : v.1 ≠ 0 := hv
  rw [euc_eq]
  exact ⟨_, euc_lt u v hv, h.step hv, rfl⟩
theorem inv1_bd {B g : Nat} (hB : B ≤ 700) : ∀ u v m, Inv1 B g u v m → BV 50000 u ∧ BV 50000 v ∧ Bt 8000 (cmp 1 v) := by
  rintro u v m ⟨h1, h2, h3, h4, h5, rfl⟩
  exact ⟨⟨by rw [h1]; exact .zero, h4.mono (by omega)⟩, ⟨by rw [h2]; exact .zero, h5.mono (by omega)⟩, h5.mono (by omega)⟩
theorem inv1_st {B g : Nat} : ∀ u v m, Inv1 B g u v m → cmp 1 v ≠ 0 → ∃ m', m' < m ∧ Inv1 B g v (vadd u (smul (0 - (cmp 1 u).fdiv (cmp 1 v)) v)) m' := by
  rintro u v m ⟨h1, h2, h3, h4, h5, rfl⟩ hv
  have hv : v.2 ≠ 0 := hv
  have e2 : (vadd u (smul (0 - (cmp 1 u).fdiv (cmp 1 v)) v)).2 = u.2 - u.2.fdiv v.2 * v.2 := by simp only [vadd, smul, cmp]; simp; grind
  have e3 : u.2 - u.2.fdiv v.2 * v.2 = u.2.fmod v.2 := by have := Int.fmod_add_mul_fdiv u.2 v.2; rw [Int.mul_comm]; omega
  refine ⟨_, mu_lt (a := u.2) hv, h2, ?_, ?_, h5, ?_, ?_⟩
  · simp only [vadd, smul, h1, h2]; simp
  · rw [e2, e3, gcd_fmod]; exact h3
  · rw [e2, e3]; exact h5.fmod hv
  · rw [e2]
theorem st_init {n : Nat} {vs : List V2} : ST n 0 vs (0, 0) (0, 0) := ⟨.init, rfl, .zero⟩
theorem st_skip {n t : Nat} {vs : List V2} {s0 s1 v : V2} (h : ST n t vs s0 s1) (hv : vs[t]? = some v) (hin : Sp [s0, s1] v) : ST n (t + 1) vs s0 s1 := by
  have e : s1 = (0, s1.2) := Prod.ext h.x1 rfl
  refine ⟨h.B.skip hv ((sp_abs _ _ _).mpr (by rw [← e]; exact hin)), h.x1, h.b1.mono (bi_mono (Nat.le_succ _))⟩
theorem st_inv0 {n t : Nat} {vs : List V2} {s0 s1 v : V2} (h : ST n t vs s0 s1) (hv : vs[t]? = some v) (hb : BV (n + 6) v) : Inv0 n t vs (s1.2.natAbs : Int) s0 v v.1.natAbs := ⟨WI.init h.B hv hb, rfl⟩
theorem st_inv1 {n t : Nat} {vs : List V2} {s0 s1 u v : V2} {m : Nat} (h : ST n t vs s0 s1) (h0 : Inv0 n t vs (s1.2.natAbs : Int) u v m) (hz : cmp 0 v = 0) : Inv1 (bi (n + 6) (t + 1)) (Int.gcd s1.2 v.2) s1 v (mu s1.2 v.2) :=
  ⟨h.x1, hz, rfl, h.b1.mono (bi_mono (Nat.le_succ _)), h0.1.gy, rfl⟩
theorem st_fin {n t : Nat} {vs : List V2} {l : Int} {s1 u v u2 v2 : V2} {m m2 : Nat} (h0 : Inv0 n t vs (s1.2.natAbs : Int) u v m) (hz : cmp 0 v = 0) (h1 : Inv1 (bi (n + 6) (t + 1)) (Int.gcd s1.2 v.2) u2 v2 m2) (hz2 : cmp 1 v2 = 0) : ST n (t + 1) vs u u2 := by
  have hz : v.1 = 0 := hz
  have hz2 : v2.2 = 0 := hz2
  obtain ⟨a1, a2, a3, a4, a5, _⟩ := h1
  have f := h0.1.fin hz
  rw [hz2, Int.gcd_zero_right] at a3
  refine ⟨?_, a1, a4⟩
  rw [a3]
  have e : Int.gcd (s1.2.natAbs : Int) v.2 = Int.gcd s1.2 v.2 := by simp [Int.gcd]
  rwa [e] at f
theorem mu_bd {n t : Nat} {s1 v : V2} (hn : n ≤ 6) (ht : t + 1 ≤ 48) (h1 : Bt (bi (n + 6) (t + 1)) s1.2) (h2 : Bt (bi (n + 6) (t + 1)) v.2) : mu s1.2 v.2 ≤ 1402 := by
  have := mu_le h1 h2
  have := bi_le (n := n) hn ht
  omega
end G
namespace G
open PySem L2
def fsS (n : Nat) (k l s : Addr) (a b : Nat) : List (Str × D) := fsW n k l [("samples", .ref s), ("steps", .tup [.int (a : Nat), .int (b : Nat)])]
/-- the state of the Writer after t shifts -/
structure WT (n : Nat) (gs : List Sy) (ps : List (Sy × Nat)) (t : Nat) (known : List Sy) (lines : List Ln) (a b : Nat) (s0 s1 : V2) : Prop where
  ws : WS gs known lines
  psk : ∀ p ∈ ps, known[p.2]? = some p.1
  ka : known[a]? = some (0, s0)
  kb : known[b]? = some (0, s1)
  st : ST n t (offs gs (ps.map Prod.fst)) s0 s1
  ll : lines.length ≤ 8 + t * 6000
theorem steps_get {known : List Sy} {a b i : Nat} {s0 s1 : V2} {d : D} (ha : known[a]? = some (0, s0)) (hb : known[b]? = some (0, s1)) (h : [D.int (a : Nat), D.int (b : Nat)][i]? = some d) :
    ∃ (q : Nat) (v : V2), d = .int (q : Nat) ∧ known[q]? = some (0, v) ∧ [s0, s1][i]? = some v := by
  match i, h with
  | 0, h => cases h; exact ⟨a, s0, rfl, ha, rfl⟩
  | 1, h => cases h; exact ⟨b, s1, rfl, hb, rfl⟩
  | i + 2, h => simp at h
theorem kvP_vals (ps : List (Sy × Nat)) : (kvP ps).map (·.2) = ps.map fun p => D.int (p.2 : Nat) := by unfold kvP; rw [List.map_map]; rfl
end G
end
section
set_option Elab.async false
set_option linter.all false
set_option maxRecDepth 100000
set_option maxHeartbeats 4000000
namespace G
open PySem L2
variable {P : Program} {w : World} {K : PySem.W.Frag} {mg : Str → Option Value} {base : Heap}
def W_write_steps (C : Addr) : Spec := fun want ds R => ∃ (n : Nat) (gs : List Sy) (dx k l w s : Addr) (ps : List (Sy × Nat)) (known : List Sy) (lines : List Ln) (a0 : Nat),
  want = [⟨w, true, .ins C dx (fsS gs.length k l s a0 a0)⟩, ⟨k, true, .lst (known.map dS)⟩, ⟨l, true, .lst (lines.map dL)⟩, ⟨s, true, .dic (kvP ps)⟩] ∧ ds = [.ref w] ∧ GB n gs ∧ n ≤ 6 ∧ SM n gs (ps.map Prod.fst) ∧ WT n gs ps 0 known lines a0 a0 (0, 0) (0, 0) ∧
  R = fun d st => d = .non ∧ ∃ (known' : List Sy) (lines' : List Ln) (a b : Nat) (s0 s1 : V2), st = [⟨w, true, .ins C dx (fsS gs.length k l s a b)⟩, ⟨k, true, .lst (known'.map dS)⟩, ⟨l, true, .lst (lines'.map dL)⟩, ⟨s, true, .dic (kvP ps)⟩] ∧ WT n gs ps (offs gs (ps.map Prod.fst)).length known' lines' a b s0 s1
theorem ok_write_steps {f C : Addr} {fd : FuncData} (Fu : MetT K "write_steps" "Writer.write_steps" 60 5 f fd) (wc : WC K C) (mb : MB mg) (mc : MC K mg) (f_product_of : Fn P w K mg base "product_of" 3 2 [] W_product_of) (f_offset : Fn P w K mg base "offset" 1 1 [] W_offset) (f_is_step : Fn P w K mg base "is_step" 4 2 [] W_is_step) (f_divided : Mt P w K mg base C "divided" 8 4 (W_divided C)) (f_inverse_of : Fn P w K mg base "inverse_of" 3 1 [] W_inverse_of) (f_basis_of : Fn P w K mg base "basis_of" 2 1 [] W_basis_of) (f_write : Mt P w K mg base C "write" 7 2 (W_write C)) (f_step_of : Mt P w K mg base C "step_of" 2 2 (W_step_of C)) : FnOk P w K mg base CX0 9 f fd ["self"] (spW K 1 (W_write_steps C)) := by
  refine fnok_mk (N := ["self", "sample", "index", "there", "same", "step", "first", "rest", "one"]) (Gs := ["range", "product_of", "offset", "inverse_of", "is_step", "basis_of"]) (Vi := [0, 1, 2, 3, 4, 5, 6, 7]) Fu ⟨rfl, rfl, rfl, by decide +kernel, rfl, by decide +kernel, by decide +kernel⟩ (by decide +kernel) rfl ?_
  rintro X F want ds R c hsc ⟨n, gs, dx, k, l, w, s, ps, known, lines, a0, rfl, rfl, hg, hn, hS, hT, rfl⟩ hl hF
  show SL X F _ [some _, none, none, none, none, none, none, none, none] _ _ _
  refine sl_cons (ss_lock (.there (.there (.there .here))) fun HL hF => ?_)
  refine ss_for c (vs := [1]) ?_
  refine ei_vals hF ?_
  refine ee_self c (i := 0) rfl rfl rfl wc.cls wc.n_samples (by repeat (first | exact Has.here | apply Has.there)) (by rfl) ?_
  refine ⟨rfl, ?_⟩
  refine ⟨fun i en st => ∃ (known1 : List Sy) (lines1 : List Ln) (a b : Nat) (s0 s1 : V2) (o1 o2 o3 o4 o5 o6 o7 : Option D), en = [some (.ref w), o1, o2, o3, o4, o5, o6, o7, none] ∧ st = [⟨w, true, .ins C dx (fsS gs.length k l s a b)⟩, ⟨k, true, .lst (known1.map dS)⟩, ⟨l, true, .lst (lines1.map dL)⟩, ⟨s, false, .dic (kvP ps)⟩] ∧ WT n gs ps (i * gs.length) known1 lines1 a b s0 s1, ⟨known, lines, a0, a0, (0, 0), (0, 0), none, none, none, none, none, none, none, rfl, rfl, by rw [Nat.zero_mul]; exact hT⟩, fun _ _ _ _ _ => trivial, ?_, ?_⟩
  · rintro i d en2 st2 hd ⟨known1, lines1, a, b, s0, s1, o1, o2, o3, o4, o5, o6, o7, rfl, rfl, hT1⟩
    rw [kvP_vals] at hd
    obtain ⟨p, hp, rfl⟩ := getMap hd
    have hpm := List.mem_of_getElem? hp
    have hi : i < ps.length := getLt hp
    have h8 := hS.len
    rw [List.length_map] at h8
    have hg6 := hg.1
    refine eg_name c (i := 1) rfl rfl (by decide) (.there .here) ?_
    refine sl_cons (ss_for c (vs := [2]) ?_)
    refine ei_rng c (j := 0) rfl mb.range ?_
    refine ee_self c (i := 0) rfl rfl rfl wc.cls wc.n_many (by repeat (first | exact Has.here | apply Has.there)) (by rfl) ?_
    refine ⟨_, rfl, by omega, by have := hg.1; omega, ?_⟩
    refine ⟨fun j en st => ∃ (known1 : List Sy) (lines1 : List Ln) (a b : Nat) (s0 s1 : V2) (o2 o3 o4 o5 o6 o7 : Option D), en = [some (.ref w), some (.int (p.2 : Nat)), o2, o3, o4, o5, o6, o7, none] ∧ st = [⟨w, true, .ins C dx (fsS gs.length k l s a b)⟩, ⟨k, true, .lst (known1.map dS)⟩, ⟨l, true, .lst (lines1.map dL)⟩, ⟨s, false, .dic (kvP ps)⟩] ∧ WT n gs ps (i * gs.length + j) known1 lines1 a b s0 s1, ⟨known1, lines1, a, b, s0, s1, o2, o3, o4, o5, o6, o7, rfl, rfl, hT1⟩, fun _ _ _ _ _ => trivial, ?_, ?_⟩
    · rintro j d en2 st2 hd ⟨known1, lines1, a, b, s0, s1, o2, o3, o4, o5, o6, o7, rfl, rfl, hT1⟩
      obtain ⟨hj, rfl⟩ := rangeGet hd
      have hj : j < gs.length := by omega
      have hgj : gs[j]? = some gs[j] := by simp [hj]
      generalize gs[j] = g at hgj
      have hgm := List.mem_of_getElem? hgj
      have hkg := hT1.ws.gen hgj
      have hkp := hT1.psk p hpm
      have hsm : p.1 ∈ ps.map Prod.fst := List.mem_map.mpr ⟨p, hpm, rfl⟩
      obtain ⟨pp, hpp, hlk, hsmp⟩ := kvP_get (hS.cl p.1 hsm g hgm)
      have hkpp := hT1.psk pp hpp
      have hov : (offs gs (ps.map Prod.fst))[i * gs.length + j]? = some (sft (ps.map Prod.fst) p.1 g).2 := off_get (by rw [List.getElem?_map, hp]; rfl) hgj
      have hs1 := (hS.sc.sft hsm hgm).1
      have hbv := off_bv hg hS _ (List.mem_of_getElem? hov)
      have esft : sft (ps.map Prod.fst) p.1 g = mul (mul p.1 g) (inv pp.1) := by rw [hsmp]; rfl
      rw [esft] at hov hs1 hbv
      have ht48 : i * gs.length + j + 1 ≤ 48 := by
        have h1 : i * gs.length ≤ 7 * 6 := Nat.mul_le_mul (by omega) hg6
        omega
      have hll := hT1.ll
      have hkl := hT1.ws.klen
      have hbi := bi_le (n := n) hn ht48
      have hbi0 := bi_le (n := n) hn (show i * gs.length + j ≤ 48 by omega)
      have hb0 : BV 700 s0 := ⟨hT1.st.B.bx.mono (by omega), hT1.st.B.by'.mono hbi0⟩
      have hb1 : BV 700 s1 := ⟨by rw [hT1.st.x1]; exact .zero, hT1.st.b1.mono hbi0⟩
      refine eg_name c (i := 2) rfl rfl (by decide) (.there (.there .here)) ?_
      refine sl_cons (ss_set c (i := 3) rfl rfl ?_)
      refine ee_pcall c (i := 1) f_product_of (by decide) rfl ?_
      refine ea_cons ?_
      refine ee_ixL ?_
      refine ee_self c (i := 0) rfl rfl rfl wc.cls wc.n_known (by repeat (first | exact Has.here | apply Has.there)) (by rfl) ?_
      refine ee_var c (i := 1) rfl rfl rfl ?_
      refine ⟨_, _, _, dS p.1, rfl, (by repeat (first | exact Has.here | apply Has.there)), rfl, atI_nat (by rw [List.getElem?_map, hkp]; rfl), ?_⟩
      refine ea_cons ?_
      refine ee_ixL ?_
      refine ee_self c (i := 0) rfl rfl rfl wc.cls wc.n_known (by repeat (first | exact Has.here | apply Has.there)) (by rfl) ?_
      refine ee_var c (i := 2) rfl rfl rfl ?_
      refine ⟨_, _, _, dS g, rfl, (by repeat (first | exact Has.here | apply Has.there)), rfl, atI_nat (by rw [List.getElem?_map, hkg]; rfl), ?_⟩
      refine ea_nil ?_
      refine ⟨_, ⟨p.1, g, rfl, rfl⟩, rfl, ?_⟩
      rintro _ rfl
      refine ⟨_, (.there (.there (.there .here))), ?_⟩
      refine sl_cons (ss_set c (i := 4) rfl rfl ?_)
      refine ee_dget c ?_
      refine ee_self c (i := 0) rfl rfl rfl wc.cls wc.n_samples (by repeat (first | exact Has.here | apply Has.there)) (by rfl) ?_
      refine ee_ixT ?_
      refine ee_var c (i := 3) rfl rfl rfl ?_
      refine ee_int ?_
      refine ⟨_, _, _, rfl, rfl, rfl, ?_⟩
      refine ⟨_, _, _, .int (pp.2 : Nat), rfl, rfl, (by repeat (first | exact Has.here | apply Has.there)), hlk, ?_⟩
      refine ⟨_, (.there (.there (.there (.there .here)))), ?_⟩
      refine sl_cons (ss_set c (i := 5) rfl rfl ?_)
      refine ee_pcall c (i := 2) f_offset (by decide) rfl ?_
      refine ea_cons ?_
      refine ee_pcall c (i := 1) f_product_of (by decide) rfl ?_
      refine ea_cons ?_
      refine ee_var c (i := 3) rfl rfl rfl ?_
      refine ea_cons ?_
      refine ee_pcall c (i := 3) f_inverse_of (by decide) rfl ?_
      refine ea_cons ?_
      refine ee_ixL ?_
      refine ee_self c (i := 0) rfl rfl rfl wc.cls wc.n_known (by repeat (first | exact Has.here | apply Has.there)) (by rfl) ?_
      refine ee_var c (i := 4) rfl rfl rfl ?_
      refine ⟨_, _, _, dS pp.1, rfl, (by repeat (first | exact Has.here | apply Has.there)), rfl, atI_nat (by rw [List.getElem?_map, hkpp]; rfl), ?_⟩
      refine ea_nil ?_
      refine ⟨_, ⟨pp.1, rfl, rfl⟩, rfl, ?_⟩
      rintro _ rfl
      refine ea_nil ?_
      refine ⟨_, ⟨mul p.1 g, inv pp.1, rfl, rfl⟩, rfl, ?_⟩
      rintro _ rfl
      refine ea_nil ?_
      refine ⟨_, ⟨mul (mul p.1 g) (inv pp.1), rfl, rfl⟩, rfl, ?_⟩
      rintro _ rfl
      refine ⟨_, (.there (.there (.there (.there (.there .here))))), ?_⟩
      refine sl_cons (ss_if ?_)
      refine et_not ?_
      refine et_val ?_
      refine ee_pcall c (i := 4) f_is_step (by decide) rfl ?_
      refine ea_cons ?_
      refine ee_call c (i := 5) f_basis_of (by decide) rfl ?_
      refine ea_cons ?_
      refine ee_lc c [("one", 8)] (G' := []) (V' := [8, 0]) (by rw [hsc]; decide +kernel) (by rw [hsc]; decide +kernel) ?_
      refine ei_tup ?_
      refine ee_self c (i := 0) rfl rfl rfl wc.cls wc.n_steps (by repeat (first | exact Has.here | apply Has.there)) (by rfl) ?_
      refine ⟨_, rfl, ?_⟩
      intro p1
      refine ⟨fun i st => st = [⟨p1, true, .lst (([s0, s1].take i).map dV)⟩, ⟨w, true, .ins C dx (fsS gs.length k l s a b)⟩, ⟨k, true, .lst (known1.map dS)⟩, ⟨l, true, .lst (lines1.map dL)⟩, ⟨s, false, .dic (kvP ps)⟩], rfl, fun _ _ _ _ => trivial, ?_, ?_⟩
      · rintro i d st2 hd rfl Xp1 hX
        obtain ⟨q, v, rfl, hq, hv⟩ := steps_get hT1.ka hT1.kb hd
        refine eg_name hX.2 (i := 8) rfl rfl (by decide) (.there (.there (.there (.there (.there (.there (.there (.there .here)))))))) ?_
        intro Xp1 hX
        refine ee_pmo ?_
        refine ee_smeth hX.2 f_step_of wc.cls (by decide) (i := 0) rfl rfl rfl (by repeat (first | exact Has.here | apply Has.there)) (by rfl) ?_
        refine ea_cons ?_
        refine ee_var hX.2 (i := 8) rfl rfl rfl ?_
        refine ea_nil ?_
        refine ⟨_, _, _, .rd (by repeat (first | exact OutA.here | apply OutA.there)) (.rd (by repeat (first | exact OutA.here | apply OutA.there)) (.nil _)), ⟨dx, gs.length, k, l, w, _, known1, q, (0, v), rfl, rfl, hq, rfl⟩, rfl, ?_⟩
        rintro _ _ ⟨rfl, rfl⟩
        refine ⟨_, (List.Perm.append_right [_, _] (List.perm_append_comm (l₁ := [_, _]) (l₂ := [_]))), ?_⟩
        refine ⟨_, _, (by repeat (first | exact Put.here | apply Put.there)), lenTake hv (Nat.le_of_ble_eq_true rfl), ?_⟩
        show _ = _
        rw [takeS hv, List.map_append]; rfl
      · rintro st2 rfl
        refine ea_nil ?_
        refine ⟨_, _, _, .rd .here (.nil _), ⟨700, [s0, s1], by omega, by simp, fun v hv => by simp only [List.mem_cons, List.not_mem_nil, or_false] at hv; rcases hv with rfl | rfl <;> assumption, .inr ⟨_, rfl, rfl⟩, rfl⟩, rfl, ?_⟩
        rintro _ _ ⟨⟨b2, rfl, hN⟩, rfl⟩
        refine ea_cons ?_
        refine ee_var c (i := 5) rfl rfl rfl ?_
        refine ea_nil ?_
        refine ⟨_, ⟨b2, _, rfl, hN.nf, fun v hv => (hN.bL v hv).mono (by omega), hbv.mono (by omega), rfl⟩, rfl, ?_⟩
        rintro _ ⟨b2, rfl, hb2⟩
        refine ⟨_, rfl, ?_⟩
        cases b2
        · refine isT ?_
          refine sl_st (.cons _ (.refl _)) ?_
          refine sl_cons (ss_par2 c (i := 6) (j := 7) rfl rfl rfl rfl (by rw [hsc]; rfl) (by rw [hsc]; rfl) ?_)
          refine ea_cons ?_
          refine ee_ixT ?_
          refine ee_self c (i := 0) rfl rfl rfl wc.cls wc.n_steps (by repeat (first | exact Has.here | apply Has.there)) (by rfl) ?_
          refine ee_int ?_
          refine ⟨_, _, _, rfl, rfl, rfl, ?_⟩
          refine ea_cons ?_
          refine ee_smeth c f_write wc.cls (by decide) (i := 0) rfl rfl rfl (by repeat (first | exact Has.here | apply Has.there)) (by rfl) ?_
          refine ea_cons ?_
          refine ee_tup ?_
          refine ea_cons ?_
          refine ee_tup ?_
          refine ea_cons ?_
          refine ee_var c (i := 1) rfl rfl rfl ?_
          refine ea_cons ?_
          refine ee_int ?_
          refine ea_nil ?_
          refine ⟨Nat.le_of_ble_eq_true rfl, ?_⟩
          refine ea_cons ?_
          refine ee_tup ?_
          refine ea_cons ?_
          refine ee_var c (i := 2) rfl rfl rfl ?_
          refine ea_cons ?_
          refine ee_int ?_
          refine ea_nil ?_
          refine ⟨Nat.le_of_ble_eq_true rfl, ?_⟩
          refine ea_cons ?_
          refine ee_tup ?_
          refine ea_cons ?_
          refine ee_var c (i := 4) rfl rfl rfl ?_
          refine ea_cons ?_
          refine ee_neg ?_
          refine ee_int ?_
          refine ⟨_, rfl, ?_⟩
          refine ea_nil ?_
          refine ⟨Nat.le_of_ble_eq_true rfl, ?_⟩
          refine ea_nil ?_
          refine ⟨Nat.le_of_ble_eq_true rfl, ?_⟩
          refine ea_nil ?_
          have hi0 := st_inv0 hT1.st hov hbv
          have hfo : ∀ f ∈ [(p.2, (1 : Int)), (j, 1), (pp.2, -1)], FOk known1 f := fun f hf => by
            simp only [List.mem_cons, List.not_mem_nil, or_false] at hf
            rcases hf with rfl | rfl | rfl
            · exact fok_of hkp ((hS.bv hsm).mono (by omega)) (bt1 (by decide))
            · exact fok_of hkg ((hg.2 g hgm).mono (by omega)) (bt1 (by decide))
            · exact fok_of hkpp ((hS.bv (List.mem_map.mpr ⟨pp, hpp, rfl⟩)).mono (by omega)) (btm1 (by decide))
          have hml : i * gs.length + j < 48 := by omega
          have hl48 : lines1.length ≤ 300000 := by omega
          have hWn := hT1.ws.snoc (l := [(p.2, 1), (j, 1), (pp.2, -1)]) (by omega) (by simp) hfo
          have hkn : (known1 ++ [lineVal known1 [(p.2, 1), (j, 1), (pp.2, -1)]])[known1.length]? = some (0, (mul (mul p.1 g) (inv pp.1)).2) := by
            rw [lv_sft hkp hkg hkpp, get_last]
            exact congrArg some (Prod.ext hs1 rfl)
          have hxb : (mul (mul p.1 g) (inv pp.1)).2.1.natAbs ≤ 4096 := by
            have h1 := hbv.1
            have h2 := h1.mono (show n + 6 ≤ 12 by omega)
            exact Nat.le_of_lt h2
          refine ⟨_, _, _, .rd (by repeat (first | exact OutA.here | apply OutA.there)) (.wr (by repeat (first | exact OutA.here | apply OutA.there)) (.wr (by repeat (first | exact OutA.here | apply OutA.there)) (.nil _))), ⟨dx, _, k, l, w, _, known1, lines1, [(p.2, 1), (j, 1), (pp.2, -1)], rfl, rfl, hfo, by omega, by omega, rfl⟩, rfl, ?_⟩
          rintro _ _ ⟨rfl, rfl⟩
          refine ea_nil ?_
          refine ⟨_, _, _, _, rfl, (.there (.there (.there (.there (.there (.there .here)))))), (.there (.there (.there (.there (.there (.there (.there .here))))))), ?_⟩
          refine sl_cons (ss_asg (vs := [6, 7]) ?_ )
          refine ee_smeth c f_divided wc.cls (by decide) (i := 0) rfl rfl rfl (by repeat (first | exact Has.here | apply Has.there)) (by rfl) ?_
          refine ea_cons ?_
          refine ee_var c (i := 6) rfl rfl rfl ?_
          refine ea_cons ?_
          refine ee_var c (i := 7) rfl rfl rfl ?_
          refine ea_cons ?_
          refine ee_int ?_
          refine ea_nil ?_
          refine ⟨_, _, _, .rd (by repeat (first | exact OutA.here | apply OutA.there)) (.wr (by repeat (first | exact OutA.here | apply OutA.there)) (.wr (by repeat (first | exact OutA.here | apply OutA.there)) (.nil _))), ⟨gs, dx, _, k, l, w, _, _, _, a, known1.length, 0, Inv0 n (i * gs.length + j) (offs gs (ps.map Prod.fst)) (s1.2.natAbs : Int), s0, _, _, rfl, rfl, .inl rfl, Rw.two _ _, hWn, hg6, by simp only [List.length_append, List.length_cons, List.length_nil]; omega, get_ext hT1.ka, hkn, hi0, inv0_bd hn ht48, inv0_st, rfl⟩, rfl, ?_⟩
          rintro _ _ ⟨f1, r1, known3, lines3, u3, v3, m3, rfl, rfl, hW3, ⟨ext3, hx3⟩, hf3, hr3, hI3, hz3, hl3⟩
          have hi1 := st_inv1 hT1.st hI3 hz3
          have hmu := mu_bd hn ht48 (hT1.st.b1.mono (bi_mono (Nat.le_succ _))) hI3.1.gy
          simp only [List.length_append, List.length_cons, List.length_nil] at hl3
          refine eg_tup c (n := 2) ?_ rfl
          refine egs_cons ?_
          refine eg_name c (i := 6) rfl rfl (by decide) (.there (.there (.there (.there (.there (.there .here)))))) ?_
          refine egs_cons ?_
          refine eg_name c (i := 7) rfl rfl (by decide) (.there (.there (.there (.there (.there (.there (.there .here))))))) ?_
          refine egs_nil ?_
          refine sl_cons (ss_self c (i := 0) rfl rfl rfl wc.cls wc.n_steps ?_)
          refine ee_tup ?_
          refine ea_cons ?_
          refine ee_var c (i := 6) rfl rfl rfl ?_
          refine ea_cons ?_
          refine ee_ixT ?_
          refine ee_smeth c f_divided wc.cls (by decide) (i := 0) rfl rfl rfl (by repeat (first | exact Has.here | apply Has.there)) (by rfl) ?_
          refine ea_cons ?_
          refine ee_ixT ?_
          refine ee_self c (i := 0) rfl rfl rfl wc.cls wc.n_steps (by repeat (first | exact Has.here | apply Has.there)) (by rfl) ?_
          refine ee_int ?_
          refine ⟨_, _, _, rfl, rfl, rfl, ?_⟩
          refine ea_cons ?_
          refine ee_var c (i := 7) rfl rfl rfl ?_
          refine ea_cons ?_
          refine ee_int ?_
          refine ea_nil ?_
          have hkb3 : known3[b]? = some (0, s1) := by rw [hx3]; exact get_ext (get_ext hT1.kb)
          refine ⟨_, _, _, .rd (by repeat (first | exact OutA.here | apply OutA.there)) (.wr (by repeat (first | exact OutA.here | apply OutA.there)) (.wr (by repeat (first | exact OutA.here | apply OutA.there)) (.nil _))), ⟨gs, dx, _, k, l, w, _, known3, lines3, b, r1, 1, Inv1 (bi (n + 6) (i * gs.length + j + 1)) (Int.gcd s1.2 v3.2), s1, v3, mu s1.2 v3.2, rfl, rfl, .inr rfl, Rw.two _ _, hW3, hg6, by omega, hkb3, hr3, hi1, inv1_bd hbi, inv1_st, rfl⟩, rfl, ?_⟩
          rintro _ _ ⟨f4, r4, known4, lines4, u4, v4, m4, rfl, rfl, hW4, ⟨ext4, hx4⟩, hf4, hr4, hI4, hz4, hl4⟩
          refine ee_int ?_
          refine ⟨_, _, _, rfl, rfl, rfl, ?_⟩
          refine ea_nil ?_
          refine ⟨Nat.le_of_ble_eq_true rfl, ?_⟩
          refine ⟨_, _, _, (by repeat (first | exact Put.here | apply Put.there)), Nat.le_of_ble_eq_true rfl, ?_⟩
          refine sl_pm (List.Perm.append_right [_] (List.perm_append_comm (l₁ := [_, _]) (l₂ := [_]))) ?_
          refine sl_nil ?_
          refine sl_nil ?_
          refine ⟨known4, lines4, f1, f4, u3, u4, _, _, _, _, _, _, rfl, rfl, hW4, fun q hq => ?_, ?_, hf4, st_fin (l := 0) hI3 hz3 hI4 hz4, ?_⟩
          · rw [hx4, hx3]; exact get_ext (get_ext (get_ext (hT1.psk q hq)))
          · rw [hx4]; exact get_ext hf3
          · have e : 8 + (i * gs.length + (j + 1)) * 6000 = 8 + (i * gs.length + j) * 6000 + 6000 := by rw [← Nat.add_assoc (i * gs.length), Nat.add_mul (i * gs.length + j)]; omega
            omega
        · refine isF ?_
          refine sl_st (.cons _ (.refl _)) ?_
          refine sl_nil ?_
          refine sl_nil ?_
          refine ⟨known1, lines1, a, b, s0, s1, _, _, _, _, _, _, rfl, rfl, hT1.ws, hT1.psk, hT1.ka, hT1.kb, st_skip hT1.st hov ((hN.sp _).mp (hb2.mp rfl)), ?_⟩
          have e : 8 + (i * gs.length + (j + 1)) * 6000 = 8 + (i * gs.length + j) * 6000 + 6000 := by rw [← Nat.add_assoc (i * gs.length), Nat.add_mul (i * gs.length + j)]; omega
          omega
    · rintro en2 st2 ⟨known1, lines1, a, b, s0, s1, o2, o3, o4, o5, o6, o7, rfl, rfl, hT1⟩
      rw [List.length_map, List.length_range, Int.toNat_natCast] at hT1
      refine sl_nil ?_
      refine ⟨known1, lines1, a, b, s0, s1, _, _, _, _, _, _, _, rfl, rfl, ?_⟩
      rw [Nat.add_mul, Nat.one_mul]; exact hT1
  · rintro en2 st2 ⟨known1, lines1, a, b, s0, s1, o1, o2, o3, o4, o5, o6, o7, rfl, rfl, hT1⟩
    rw [kvP_vals, List.length_map] at hT1
    have hol : (offs gs (ps.map Prod.fst)).length = ps.length * gs.length := by rw [offs_len, List.length_map]
    refine ⟨_, (.there (.there (.there .here))), ?_⟩
    refine sl_nil ?_
    exact ⟨_, .refl _, fun e he => by simp at he; rcases he with rfl | rfl | rfl | rfl <;> rfl, rfl, known1, lines1, a, b, s0, s1, rfl, by rw [hol]; exact hT1⟩
end G
end
section
set_option Elab.async false
set_option linter.all false
set_option maxRecDepth 100000
set_option maxHeartbeats 4000000
/-! W4: a symmetry written as a line. -/
namespace G
open PySem L2
def tm (i : Nat) (r v : V2) : Int := if ¬ cmp i v = 0 then (cmp i r).fdiv (cmp i v) else 0
def rst (i : Nat) (r v : V2) : V2 := (r.1 - tm i r v * v.1, r.2 - tm i r v * v.2)
theorem rst_zero {s0 s1 r : V2} (h0 : s0.1 = 0 → s0.2 = 0) (h1 : s1.1 = 0) (h : Sp [s0, s1] r) : rst 1 (rst 0 r s0) s1 = (0, 0) := by
  obtain ⟨m, n, rfl⟩ := sp_two.mp h
  have e1 : rst 0 (vadd (smul m s0) (smul n s1)) s0 = smul n s1 := by
    by_cases hz : s0.1 = 0
    · have hz2 := h0 hz
      refine v2_ext ?_ ?_ <;> simp [rst, vadd, smul, hz, hz2]
    · have ht : tm 0 (vadd (smul m s0) (smul n s1)) s0 = m := by
        simp only [tm, cmp, if_true, vadd, smul, h1, Int.mul_zero, Int.add_zero]
        rw [if_pos hz, Int.mul_fdiv_cancel _ hz]
      refine v2_ext ?_ ?_ <;> simp only [rst, ht] <;> simp only [vadd, smul] <;> omega
  rw [e1]
  by_cases hz : s1.2 = 0
  · refine v2_ext ?_ ?_ <;> simp [rst, smul, h1, hz]
  · have ht : tm 1 (smul n s1) s1 = n := by
      have e : ¬ (1 : Nat) = 0 := by decide
      simp only [tm, cmp, if_neg e, smul]
      rw [if_pos hz, Int.mul_fdiv_cancel _ hz]
    refine v2_ext ?_ ?_ <;> simp only [rst, ht] <;> simp only [smul] <;> omega
theorem tm_bt {n i : Nat} {r v : V2} (h : BV n r) : Bt n (tm i r v) := by
  unfold tm
  split
  · refine Bt.fdiv ?_
    unfold cmp; split
    · exact h.1
    · exact h.2
  · exact .zero
theorem rst_bv {n m i k : Nat} {r v : V2} (h : BV n r) (g : BV m v) (hk : n + m < k) : BV k (rst i r v) :=
  ⟨h.1.sub ((tm_bt h).mul g.1) (by omega) hk, h.2.sub ((tm_bt h).mul g.2) (by omega) hk⟩
theorem lv_sym {known : List Sy} {q a b : Nat} {g sym : Sy} {s0 s1 : V2} (hq : known[q]? = some g) (ha : known[a]? = some (0, s0)) (hb : known[b]? = some (0, s1)) (hk : g.1 = sym.1) (h0 : s0.1 = 0 → s0.2 = 0) (h1 : s1.1 = 0) (h : Sp [s0, s1] (vsub sym.2 g.2)) :
    lineVal known [(q, 1), (a, tm 0 (vsub sym.2 g.2) s0), (b, tm 1 (rst 0 (vsub sym.2 g.2) s0) s1)] = sym := by
  rw [lv3 hq ha hb, pw1, pw_shift, pw_shift, mul_assoc, mul_shifts, shift_mul]
  have hz := rst_zero h0 h1 h
  refine Prod.ext hk ?_
  have z1 := congrArg Prod.fst hz
  have z2 := congrArg Prod.snd hz
  simp only [rst, vsub] at z1 z2
  refine v2_ext ?_ ?_ <;> simp only [vadd, smul, vsub, rst] <;> omega
/-- where the line stands -/
inductive LS (q a b : Nat) (r s0 s1 : V2) : Nat → V2 → Ln → Prop
  | z : LS q a b r s0 s1 0 r [(q, 1)]
  | o : LS q a b r s0 s1 1 (rst 0 r s0) [(q, 1), (a, tm 0 r s0)]
  | t : LS q a b r s0 s1 2 (rst 1 (rst 0 r s0) s1) [(q, 1), (a, tm 0 r s0), (b, tm 1 (rst 0 r s0) s1)]
theorem LS.next {known : List Sy} {q a b i : Nat} {r s0 s1 x : V2} {ln : Ln} {d : D} (h : LS q a b r s0 s1 i x ln) (ha : known[a]? = some (0, s0)) (hb : known[b]? = some (0, s1)) (hd : [D.int (a : Nat), D.int (b : Nat)][i]? = some d) :
    ∃ (c : Nat) (v : V2), d = .int (c : Nat) ∧ known[c]? = some (0, v) ∧ (v = s0 ∨ v = s1) ∧ (i = 0 ∨ i = 1) ∧ LS q a b r s0 s1 (i + 1) (rst i x v) (ln ++ [(c, tm i x v)]) := by
  cases h with
  | z => cases hd; exact ⟨a, s0, rfl, ha, .inl rfl, .inl rfl, .o⟩
  | o => cases hd; exact ⟨b, s1, rfl, hb, .inr rfl, .inr rfl, .t⟩
  | t => simp at hd
theorem LS.len {q a b i : Nat} {r s0 s1 x : V2} {ln : Ln} (h : LS q a b r s0 s1 i x ln) : ln.length ≤ 3 := by cases h <;> simp
theorem valOf_run {gs known : List Sy} {lines : List Ln} {g : Sy} (h : WS gs (known ++ [g]) lines) : valOf gs lines = g := by
  unfold valOf
  rw [← h.run]; simp
end G
end
section
set_option Elab.async false
set_option linter.all false
set_option maxRecDepth 100000
set_option maxHeartbeats 4000000
namespace G
open PySem L2
variable {P : Program} {w : World} {K : PySem.W.Frag} {mg : Str → Option Value} {base : Heap}
def W_is_connection : Spec := Pu fun ds p => ∃ (n : Nat) (gs : List Sy) (a q : V2), n ≤ 90 ∧ GB n gs ∧
  ((∃ pr : List Ln, ds = [dG gs, dV a, dV q, .tup [.str "program", dP pr]] ∧ PB gs pr ∧ pr ≠ [] ∧ p = fun d => ∃ t, d = .bl t ∧ (t = true ↔ img (valOf gs pr) a = q)) ∨
   (∃ (s0 : V2) (sq : List V2), ds = [dG gs, dV a, dV q, .tup [.str "apart", dVs sq]] ∧ BV 5000 a ∧ BV 5000 q ∧ BL 5000 sq ∧ sq.length < 64 ∧ OrbSq gs s0 sq ∧ p = fun d => ∃ t, d = .bl t ∧ (t = true ↔ (Orb gs s0 a ∧ ¬ Orb gs s0 q))))
theorem ok_is_connection {f : Addr} {fd : FuncData} (Fu : FunT K "is_connection" 73 [] f fd) (mb : MB mg) (mc : MC K mg) (f_need_all : Fn P w K mg base "need_all" 6 3 [] W_need_all) (f_is_apart : Fn P w K mg base "is_apart" 6 4 [] W_is_apart) (f_is_program : Fn P w K mg base "is_program" 4 2 [] W_is_program) (f_image_of : Fn P w K mg base "image_of" 2 2 [] W_image_of) (f_value_of : Fn P w K mg base "value_of" 7 2 [] W_value_of) : FnOk P w K mg base CX0 8 f fd ["generators", "start", "goal", "thing"] (spW K 4 W_is_connection) := by
  refine fnok_mk (N := ["generators", "start", "goal", "thing"]) (Gs := ["need_all", "isinstance", "tuple", "len", "str", "PROGRAM", "is_program", "image_of", "value_of", "APART", "is_apart"]) (Vi := [0, 1, 2, 3]) Fu ⟨rfl, rfl, rfl, by decide +kernel, rfl, by decide +kernel, by decide +kernel⟩ (by decide +kernel) rfl ?_
  rintro X F want ds R c hsc ⟨rfl, p, ⟨n, gs, a, q, hn, hg, (⟨pr, rfl, hP, hne, rfl⟩ | ⟨s0, sq, rfl, ha, hq, hsq, hsl, hO, rfl⟩)⟩, rfl⟩ hl hF
  · show SL X F _ [some _, some _, some _, some _] _ _ _
    refine sl_cons (ss_expr ?_)
    refine ee_pcall c (i := 0) f_need_all (by decide) rfl ?_
    refine ea_cons ?_
    refine ee_var c (i := 0) rfl rfl rfl ?_
    refine ea_cons ?_
    refine ee_var c (i := 1) rfl rfl rfl ?_
    refine ea_cons ?_
    refine ee_var c (i := 2) rfl rfl rfl ?_
    refine ea_nil ?_
    refine ⟨_, ⟨_, _, _, rfl, hg.1, rfl⟩, rfl, ?_⟩
    rintro _ rfl
    refine sl_cons (ss_if ?_)
    refine ew_pt ?_
    refine ew_or ?_
    refine et_not ?_
    refine et_val ?_
    refine ee_isi c (i := 1) rfl mb.isinstance (j := 2) rfl mb.tuple rfl ?_
    refine ee_var c (i := 3) rfl rfl rfl ?_
    refine ⟨true, rfl, ?_⟩
    refine ⟨_, rfl, ?_⟩
    refine isF ?_
    refine ew_or ?_
    refine et_neI ?_
    refine ee_lenT c (i := 3) rfl mb.len ?_
    refine ee_var c (i := 3) rfl rfl rfl ?_
    refine ⟨_, rfl, ?_⟩
    refine ee_int ?_
    refine ⟨_, _, rfl, rfl, ?_⟩
    refine ⟨fun h1 => ?_, fun h1 => ?_⟩
    · exact absurd rfl h1
    · refine isF ?_
      refine ew_or1 ?_
      refine et_not ?_
      refine et_val ?_
      refine ee_isi c (i := 1) rfl mb.isinstance (j := 4) rfl mb.str rfl ?_
      refine ee_ixT ?_
      refine ee_var c (i := 3) rfl rfl rfl ?_
      refine ee_int ?_
      refine ⟨_, _, _, rfl, rfl, rfl, ?_⟩
      refine ⟨true, rfl, ?_⟩
      refine ⟨_, rfl, ?_⟩
      refine isF ?_
      refine sl_nil ?_
      refine sl_cons (ss_if ?_)
      refine et_eqS ?_
      refine ee_ixT ?_
      refine ee_var c (i := 3) rfl rfl rfl ?_
      refine ee_int ?_
      refine ⟨_, _, _, rfl, rfl, rfl, ?_⟩
      refine ee_glob c (j := 5) mc.PROGRAM rfl ?_
      refine ⟨_, _, rfl, rfl, ?_⟩
      refine ⟨fun h2 => ?_, fun h2 => ?_⟩
      · refine isT ?_
        refine sl_cons (ss_ret ?_)
        refine ee_and ?_
        refine ee_pcall c (i := 6) f_is_program (by decide) rfl ?_
        refine ea_cons ?_
        refine ee_var c (i := 0) rfl rfl rfl ?_
        refine ea_cons ?_
        refine ee_ixT ?_
        refine ee_var c (i := 3) rfl rfl rfl ?_
        refine ee_int ?_
        refine ⟨_, _, _, rfl, rfl, rfl, ?_⟩
        refine ea_nil ?_
        refine ⟨_, ⟨gs, pr, rfl, hP, hne, rfl⟩, rfl, ?_⟩
        rintro _ rfl
        refine ⟨_, rfl, ?_⟩
        refine isT ?_
        refine ee_one ?_
        refine ee_eqD c ?_
        refine ee_pcall c (i := 7) f_image_of (by decide) rfl ?_
        refine ea_cons ?_
        refine ee_pcall c (i := 8) f_value_of (by decide) rfl ?_
        refine ea_cons ?_
        refine ee_var c (i := 0) rfl rfl rfl ?_
        refine ea_cons ?_
        refine ee_ixT ?_
        refine ee_var c (i := 3) rfl rfl rfl ?_
        refine ee_int ?_
        refine ⟨_, _, _, rfl, rfl, rfl, ?_⟩
        refine ea_nil ?_
        refine ⟨_, ⟨gs, pr, rfl, hg.1, hP, hne, rfl⟩, rfl, ?_⟩
        rintro _ rfl
        refine ea_cons ?_
        refine ee_var c (i := 1) rfl rfl rfl ?_
        refine ea_nil ?_
        refine ⟨_, ⟨valOf gs pr, a, rfl, rfl⟩, rfl, ?_⟩
        rintro _ rfl
        refine ee_var c (i := 2) rfl rfl rfl ?_
        refine ⟨by first | exact pl_dV _ | exact pl_dS _ | exact pl_dVs _ | exact pl_dG _ | rfl, by first | exact pl_dV _ | exact pl_dS _ | exact pl_dVs _ | exact pl_dG _ | rfl, ?_⟩
        intro b3 hb3
        exact .pure ⟨⟨b3, rfl, hb3.trans ⟨fun h => dV_inj h, fun h => by rw [h]⟩⟩, rfl⟩
      · exact absurd rfl h2
  · show SL X F _ [some _, some _, some _, some _] _ _ _
    refine sl_cons (ss_expr ?_)
    refine ee_pcall c (i := 0) f_need_all (by decide) rfl ?_
    refine ea_cons ?_
    refine ee_var c (i := 0) rfl rfl rfl ?_
    refine ea_cons ?_
    refine ee_var c (i := 1) rfl rfl rfl ?_
    refine ea_cons ?_
    refine ee_var c (i := 2) rfl rfl rfl ?_
    refine ea_nil ?_
    refine ⟨_, ⟨_, _, _, rfl, hg.1, rfl⟩, rfl, ?_⟩
    rintro _ rfl
    refine sl_cons (ss_if ?_)
    refine ew_pt ?_
    refine ew_or ?_
    refine et_not ?_
    refine et_val ?_
    refine ee_isi c (i := 1) rfl mb.isinstance (j := 2) rfl mb.tuple rfl ?_
    refine ee_var c (i := 3) rfl rfl rfl ?_
    refine ⟨true, rfl, ?_⟩
    refine ⟨_, rfl, ?_⟩
    refine isF ?_
    refine ew_or ?_
    refine et_neI ?_
    refine ee_lenT c (i := 3) rfl mb.len ?_
    refine ee_var c (i := 3) rfl rfl rfl ?_
    refine ⟨_, rfl, ?_⟩
    refine ee_int ?_
    refine ⟨_, _, rfl, rfl, ?_⟩
    refine ⟨fun h1 => ?_, fun h1 => ?_⟩
    · exact absurd rfl h1
    · refine isF ?_
      refine ew_or1 ?_
      refine et_not ?_
      refine et_val ?_
      refine ee_isi c (i := 1) rfl mb.isinstance (j := 4) rfl mb.str rfl ?_
      refine ee_ixT ?_
      refine ee_var c (i := 3) rfl rfl rfl ?_
      refine ee_int ?_
      refine ⟨_, _, _, rfl, rfl, rfl, ?_⟩
      refine ⟨true, rfl, ?_⟩
      refine ⟨_, rfl, ?_⟩
      refine isF ?_
      refine sl_nil ?_
      refine sl_cons (ss_if ?_)
      refine et_eqS ?_
      refine ee_ixT ?_
      refine ee_var c (i := 3) rfl rfl rfl ?_
      refine ee_int ?_
      refine ⟨_, _, _, rfl, rfl, rfl, ?_⟩
      refine ee_glob c (j := 5) mc.PROGRAM rfl ?_
      refine ⟨_, _, rfl, rfl, ?_⟩
      refine ⟨fun h2 => ?_, fun h2 => ?_⟩
      · exact absurd h2 (by decide)
      · refine isF ?_
        refine sl_nil ?_
        refine sl_cons (ss_ret ?_)
        refine ee_and ?_
        refine ee_eqS ?_
        refine ee_ixT ?_
        refine ee_var c (i := 3) rfl rfl rfl ?_
        refine ee_int ?_
        refine ⟨_, _, _, rfl, rfl, rfl, ?_⟩
        refine ee_glob c (j := 9) mc.APART rfl ?_
        refine ⟨_, _, rfl, rfl, ?_⟩
        intro b3 hb3
        refine ⟨_, rfl, ?_⟩
        cases b3
        · exact absurd (hb3.mpr rfl) (by decide)
        · refine isT ?_
          refine ee_one ?_
          refine ee_pcall c (i := 10) f_is_apart (by decide) rfl ?_
          refine ea_cons ?_
          refine ee_var c (i := 0) rfl rfl rfl ?_
          refine ea_cons ?_
          refine ee_var c (i := 1) rfl rfl rfl ?_
          refine ea_cons ?_
          refine ee_var c (i := 2) rfl rfl rfl ?_
          refine ea_cons ?_
          refine ee_ixT ?_
          refine ee_var c (i := 3) rfl rfl rfl ?_
          refine ee_int ?_
          refine ⟨_, _, _, rfl, rfl, rfl, ?_⟩
          refine ea_nil ?_
          refine ⟨_, ⟨n, gs, a, q, s0, sq, rfl, hn, hg, ha, hq, hsq, hsl, hO, rfl⟩, rfl, ?_⟩
          rintro _ ⟨b4, rfl, hb4⟩
          exact .pure ⟨⟨b4, rfl, hb4⟩, rfl⟩
end G
end
section
set_option Elab.async false
set_option linter.all false
set_option maxRecDepth 100000
set_option maxHeartbeats 4000000
namespace G
open PySem L2
variable {P : Program} {w : World} {K : PySem.W.Frag} {mg : Str → Option Value} {base : Heap}
def W___init__ (C : Addr) : Spec := fun want ds R => ∃ (n : Nat) (gs : List Sy) (dx w : Addr), want = [⟨w, true, .ins C dx []⟩] ∧ ds = [.ref w, dG gs] ∧ GB n gs ∧ n ≤ 6 ∧
  R = fun d st => d = .non ∧ ∃ (k l s : Addr) (ps : List (Sy × Nat)) (known : List Sy) (lines : List Ln) (a b : Nat) (s0 s1 : V2), st = [⟨w, true, .ins C dx (fsS gs.length k l s a b)⟩, ⟨k, true, .lst (known.map dS)⟩, ⟨l, true, .lst (lines.map dL)⟩, ⟨s, true, .dic (kvP ps)⟩] ∧ SM n gs (ps.map Prod.fst) ∧ WT n gs ps (offs gs (ps.map Prod.fst)).length known lines a b s0 s1
theorem ok___init__ {f C : Addr} {fd : FuncData} (Fu : MetT K "__init__" "Writer.__init__" 60 0 f fd) (wc : WC K C) (mb : MB mg) (mc : MC K mg) (f_written_samples : Mt P w K mg base C "written_samples" 8 1 (W_written_samples C)) (f_write_steps : Mt P w K mg base C "write_steps" 9 1 (W_write_steps C)) : FnOk P w K mg base CX0 10 f fd ["self", "generators"] (spW K 2 (W___init__ C)) := by
  refine fnok_mk (N := ["self", "generators"]) (Gs := ["len", "list", "SHIFT"]) (Vi := [0, 1]) Fu ⟨rfl, rfl, rfl, by decide +kernel, rfl, by decide +kernel, by decide +kernel⟩ (by decide +kernel) rfl ?_
  rintro X F want ds R c hsc ⟨n, gs, dx, w, rfl, rfl, hg, hn, rfl⟩ hl hF
  show SL X F _ [some _, some _] _ _ _
  refine sl_cons (ss_asg (vs := []) ?_ (hw := swN (by rfl)))
  refine ee_tup ?_
  refine ea_cons ?_
  refine ee_lenT c (i := 0) rfl mb.len ?_
  refine ee_var c (i := 1) rfl rfl rfl ?_
  refine ⟨_, rfl, ?_⟩
  rw [List.length_map]
  refine ea_cons ?_
  refine ee_listT c (i := 1) rfl mb.list ?_
  refine ee_var c (i := 1) rfl rfl rfl ?_
  refine ⟨_, rfl, fun p1 => ?_⟩
  refine ea_cons ?_
  refine ee_lst ?_
  refine ea_nil ?_
  refine ⟨Nat.le_of_ble_eq_true rfl, fun p2 => ?_⟩
  refine ea_nil ?_
  refine ⟨Nat.le_of_ble_eq_true rfl, ?_⟩
  refine eg_tup c (n := 3) ?_ rfl
  refine egs_cons ?_
  refine eg_self c (i := 0) rfl rfl rfl wc.cls wc.n_many (by repeat (first | exact Put.here | apply Put.there)) (Nat.le_of_ble_eq_true rfl) ?_
  refine egs_cons ?_
  refine eg_self c (i := 0) rfl rfl rfl wc.cls wc.n_known (by repeat (first | exact Put.here | apply Put.there)) (Nat.le_of_ble_eq_true rfl) ?_
  refine egs_cons ?_
  refine eg_self c (i := 0) rfl rfl rfl wc.cls wc.n_lines (by repeat (first | exact Put.here | apply Put.there)) (Nat.le_of_ble_eq_true rfl) ?_
  refine egs_nil ?_
  refine sl_cons (ss_self c (i := 0) rfl rfl rfl wc.cls wc.n_samples ?_)
  refine ee_smeth0 c f_written_samples wc.cls (by decide) (i := 0) rfl rfl rfl (by repeat (first | exact Has.here | apply Has.there)) (by rfl) ?_
  refine ⟨_, _, _, .rd (by repeat (first | exact OutA.here | apply OutA.there)) (.wr (by repeat (first | exact OutA.here | apply OutA.there)) (.wr (by repeat (first | exact OutA.here | apply OutA.there)) (.nil _))), ⟨n, gs, dx, p1, p2, w, [], rfl, rfl, Rw.nil, hg, by omega, rfl⟩, rfl, ?_⟩
  rintro _ _ ⟨s, ps, known, lines, rfl, rfl, hW, hS, hps, hl8⟩
  refine ⟨_, _, _, (by repeat (first | exact Put.here | apply Put.there)), Nat.le_of_ble_eq_true rfl, ?_⟩
  refine sl_cons (ss_self c (i := 0) rfl rfl rfl wc.cls wc.n_steps ?_)
  refine ee_tup ?_
  refine ea_cons ?_
  refine ee_dget c ?_
  refine ee_self c (i := 0) rfl rfl rfl wc.cls wc.n_samples (by repeat (first | exact Has.here | apply Has.there)) (by rfl) ?_
  refine ee_glob c (j := 2) mc.SHIFT rfl ?_
  obtain ⟨pp, hpp, hlk, hsmp⟩ := kvP_get (ps := ps) (k := 0) (by obtain ⟨r, e⟩ := hS.hd; rw [e]; exact ⟨one, by simp, rfl⟩)
  have h1m : one ∈ ps.map Prod.fst := by obtain ⟨r, e⟩ := hS.hd; rw [e]; simp
  rw [show smp (ps.map Prod.fst) 0 = one from smp_eq hS.nd h1m] at hsmp
  have hk1 := hps pp hpp
  rw [hsmp] at hk1
  have hT : WT n gs ps 0 known lines pp.2 pp.2 (0, 0) (0, 0) := ⟨hW, hps, hk1, hk1, st_init, by omega⟩
  refine ⟨_, _, _, .int (pp.2 : Nat), rfl, rfl, (by repeat (first | exact Has.here | apply Has.there)), hlk, ?_⟩
  refine ea_cons ?_
  refine ee_dget c ?_
  refine ee_self c (i := 0) rfl rfl rfl wc.cls wc.n_samples (by repeat (first | exact Has.here | apply Has.there)) (by rfl) ?_
  refine ee_glob c (j := 2) mc.SHIFT rfl ?_
  refine ⟨_, _, _, .int (pp.2 : Nat), rfl, rfl, (by repeat (first | exact Has.here | apply Has.there)), hlk, ?_⟩
  refine ea_nil ?_
  refine ⟨Nat.le_of_ble_eq_true rfl, ?_⟩
  refine ⟨_, _, _, (by repeat (first | exact Put.here | apply Put.there)), Nat.le_of_ble_eq_true rfl, ?_⟩
  refine sl_cons (ss_expr ?_)
  refine ee_smeth0 c f_write_steps wc.cls (by decide) (i := 0) rfl rfl rfl (by repeat (first | exact Has.here | apply Has.there)) (by rfl) ?_
  refine ⟨_, _, _, .wr (by repeat (first | exact OutA.here | apply OutA.there)) (.wr (by repeat (first | exact OutA.here | apply OutA.there)) (.wr (by repeat (first | exact OutA.here | apply OutA.there)) (.wr (by repeat (first | exact OutA.here | apply OutA.there)) (.nil _)))), ⟨n, gs, dx, p1, p2, w, s, ps, known, lines, pp.2, rfl, rfl, hg, hn, hS, hT, rfl⟩, rfl, ?_⟩
  rintro _ _ ⟨rfl, known2, lines2, a, b, s0, s1, rfl, hT2⟩
  refine sl_nil ?_
  exact ⟨_, .refl _, fun e he => by simp at he; rcases he with rfl | rfl | rfl | rfl <;> rfl, rfl, p1, p2, s, ps, known2, lines2, a, b, s0, s1, rfl, hS, hT2⟩
def W_write_symmetry (C : Addr) : Spec := fun want ds R => ∃ (n : Nat) (gs : List Sy) (dx k l w s : Addr) (ps : List (Sy × Nat)) (known : List Sy) (lines : List Ln) (a b : Nat) (s0 s1 : V2) (sym : Sy), want = [⟨w, false, .ins C dx (fsS gs.length k l s a b)⟩, ⟨k, true, .lst (known.map dS)⟩, ⟨l, true, .lst (lines.map dL)⟩, ⟨s, false, .dic (kvP ps)⟩] ∧ ds = [.ref w, dS sym] ∧ GB n gs ∧ n ≤ 6 ∧ SM n gs (ps.map Prod.fst) ∧
  WT n gs ps (offs gs (ps.map Prod.fst)).length known lines a b s0 s1 ∧ InG gs sym ∧ BV 6000 sym.2 ∧ R = fun d st => d = .non ∧ ∃ ln : Ln, st = [⟨k, true, .lst ((known ++ [sym]).map dS)⟩, ⟨l, true, .lst ((lines ++ [ln]).map dL)⟩] ∧ WS gs (known ++ [sym]) (lines ++ [ln])
theorem ok_write_symmetry {f C : Addr} {fd : FuncData} (Fu : MetT K "write_symmetry" "Writer.write_symmetry" 60 6 f fd) (wc : WC K C) (mb : MB mg) (mc : MC K mg) (f_write : Mt P w K mg base C "write" 7 2 (W_write C)) (f_step_of : Mt P w K mg base C "step_of" 2 2 (W_step_of C)) : FnOk P w K mg base CX0 8 f fd ["self", "symmetry"] (spW K 2 (W_write_symmetry C)) := by
  refine fnok_mk (N := ["self", "symmetry", "line", "x", "y", "rest", "index", "reference", "step", "times"]) (Gs := ["enumerate", "tuple"]) (Vi := [0, 1, 2, 3, 4, 5, 6, 7, 8, 9]) Fu ⟨rfl, rfl, rfl, by decide +kernel, rfl, by decide +kernel, by decide +kernel⟩ (by decide +kernel) rfl ?_
  rintro X F want ds R c hsc ⟨n, gs, dx, k, l, w, s, ps, known, lines, a, b, s0, s1, sym, rfl, rfl, hg, hn, hS, hT, hin, hby, rfl⟩ hl hF
  show SL X F _ [some _, some _, none, none, none, none, none, none, none, none] _ _ _
  refine sl_cons (ss_set c (i := 2) rfl rfl ?_)
  refine ee_lst ?_
  refine ea_cons ?_
  refine ee_tup ?_
  refine ea_cons ?_
  refine ee_dget c ?_
  refine ee_self c (i := 0) rfl rfl rfl wc.cls wc.n_samples (by repeat (first | exact Has.here | apply Has.there)) (by rfl) ?_
  refine ee_ixT ?_
  refine ee_var c (i := 1) rfl rfl rfl ?_
  refine ee_int ?_
  refine ⟨_, _, _, rfl, rfl, rfl, ?_⟩
  obtain ⟨g, hgm, hgk, hsp⟩ := hS.sc.iff.mp hin
  obtain ⟨pp, hpp, hlk, hsmp⟩ := kvP_get (ps := ps) (k := sym.1) ⟨g, hgm, hgk⟩
  rw [← hgk, smp_eq hS.nd hgm] at hsmp
  have hkp := hT.psk pp hpp
  rw [hsmp] at hkp
  have hol : (offs gs (ps.map Prod.fst)).length ≤ 48 := off_len hg hS
  have hbi := bi_le (n := n) hn hol
  have hb0 : BV 700 s0 := ⟨hT.st.B.bx.mono (by omega), hT.st.B.by'.mono hbi⟩
  have hb1 : BV 700 s1 := ⟨by rw [hT.st.x1]; exact .zero, hT.st.b1.mono hbi⟩
  have hll := hT.ll
  have hl3 : lines.length ≤ 300000 := by omega
  have hkl := hT.ws.klen
  have hg6 := hg.1
  have hbg : BV 100 g.2 := (hS.bv hgm).mono (by omega)
  have hbr : BV 6100 (vsub sym.2 g.2) := BV.sub hby hbg (by omega) (by omega)
  have hs01 : Sp [s0, s1] (vsub sym.2 g.2) := by
    have e : s1 = (0, s1.2) := Prod.ext hT.st.x1 rfl
    have h1 := (hT.st.B.sp (vsub sym.2 g.2)).mpr (by rw [List.take_length]; exact hsp)
    rw [sp_abs, ← e] at h1
    exact h1
  refine ⟨_, _, _, .int (pp.2 : Nat), rfl, rfl, (by repeat (first | exact Has.here | apply Has.there)), hlk, ?_⟩
  refine ea_cons ?_
  refine ee_int ?_
  refine ea_nil ?_
  refine ⟨Nat.le_of_ble_eq_true rfl, ?_⟩
  refine ea_nil ?_
  refine ⟨Nat.le_of_ble_eq_true rfl, fun p1 => ?_⟩
  refine ⟨_, (.there (.there .here)), ?_⟩
  refine sl_cons (ss_asg (vs := [3, 4]) ?_ )
  refine ee_from1 ?_
  refine ee_ixL ?_
  refine ee_self c (i := 0) rfl rfl rfl wc.cls wc.n_known (by repeat (first | exact Has.here | apply Has.there)) (by rfl) ?_
  refine ee_ixT ?_
  refine ee_ixL ?_
  refine ee_var c (i := 2) rfl rfl rfl ?_
  refine ee_int ?_
  refine ⟨_, _, _, .tup [.int (pp.2 : Nat), .int 1], rfl, .here, rfl, rfl, ?_⟩
  refine ee_int ?_
  refine ⟨_, _, _, rfl, rfl, rfl, ?_⟩
  refine ⟨_, _, _, dS g, rfl, (by repeat (first | exact Has.here | apply Has.there)), rfl, atI_nat (by rw [List.getElem?_map, hkp]; rfl), ?_⟩
  refine ⟨_, rfl, ?_⟩
  refine eg_tup c (n := 2) ?_ rfl
  refine egs_cons ?_
  refine eg_name c (i := 3) rfl rfl (by decide) (.there (.there (.there .here))) ?_
  refine egs_cons ?_
  refine eg_name c (i := 4) rfl rfl (by decide) (.there (.there (.there (.there .here)))) ?_
  refine egs_nil ?_
  refine sl_cons (ss_set c (i := 5) rfl rfl ?_)
  refine ee_lst ?_
  refine ea_cons ?_
  refine ee_sub ?_
  refine ee_ixT ?_
  refine ee_var c (i := 1) rfl rfl rfl ?_
  refine ee_int ?_
  refine ⟨_, _, _, rfl, rfl, rfl, ?_⟩
  refine ee_var c (i := 3) rfl rfl rfl ?_
  refine ⟨_, _, rfl, rfl, ?_⟩
  refine ea_cons ?_
  refine ee_sub ?_
  refine ee_ixT ?_
  refine ee_var c (i := 1) rfl rfl rfl ?_
  refine ee_int ?_
  refine ⟨_, _, _, rfl, rfl, rfl, ?_⟩
  refine ee_var c (i := 4) rfl rfl rfl ?_
  refine ⟨_, _, rfl, rfl, ?_⟩
  refine ea_nil ?_
  refine ⟨Nat.le_of_ble_eq_true rfl, fun p2 => ?_⟩
  refine ⟨_, (.there (.there (.there (.there (.there .here))))), ?_⟩
  refine sl_cons (ss_for c (vs := [6, 7]) ?_)
  refine ei_enT c (j := 0) rfl mb.enumerate ?_
  refine ee_self c (i := 0) rfl rfl rfl wc.cls wc.n_steps (by repeat (first | exact Has.here | apply Has.there)) (by rfl) ?_
  refine ⟨_, rfl, ?_⟩
  refine ⟨fun i en st => ∃ (pr : Addr) (x : V2) (ln : Ln) (o6 o7 o8 o9 : Option D), en = [some (.ref w), some (dS sym), some (.ref p1), some (.int g.2.1), some (.int g.2.2), some (.ref pr), o6, o7, o8, o9] ∧ st = [⟨pr, true, .lst [.int x.1, .int x.2]⟩, ⟨p1, true, .lst (ln.map dF)⟩, ⟨w, false, .ins C dx (fsS gs.length k l s a b)⟩, ⟨k, true, .lst (known.map dS)⟩, ⟨l, true, .lst (lines.map dL)⟩, ⟨s, false, .dic (kvP ps)⟩] ∧ LS pp.2 a b (vsub sym.2 g.2) s0 s1 i x ln ∧ BV (6100 + i * 1000) x ∧ ∀ f ∈ ln, FOk known f, ⟨p2, vsub sym.2 g.2, [(pp.2, 1)], none, none, none, none, rfl, rfl, .z, hbr.mono (by omega), fun f hf => by simp at hf; subst hf; exact fok_of hkp (hbg.mono (by omega)) (bt1 (by decide))⟩, fun _ _ _ _ _ => trivial, ?_, ?_⟩
  · rintro i d en2 st2 hd ⟨pr, x, ln, o6, o7, o8, o9, rfl, rfl, hL, hbx, hfo⟩
    obtain ⟨y, hy, rfl⟩ := enumGet hd
    obtain ⟨cc, v, rfl, hcv, hv01, hi, hL2⟩ := hL.next hT.ka hT.kb hy
    have hbv : BV 700 v := by rcases hv01 with rfl | rfl <;> assumption
    have hi1 : i ≤ 1 := by omega
    have hbt : Bt (6100 + i * 1000) (tm i x v) := tm_bt hbx
    have hbc : Bt 700 (cmp i v) := by
      unfold cmp
      split
      · exact hbv.1
      · exact hbv.2
    have hln3 := hL2.len
    simp only [List.length_append, List.length_cons, List.length_nil] at hln3
    refine eg_tup c (n := 2) ?_ rfl
    refine egs_cons ?_
    refine eg_name c (i := 6) rfl rfl (by decide) (.there (.there (.there (.there (.there (.there .here)))))) ?_
    refine egs_cons ?_
    refine eg_name c (i := 7) rfl rfl (by decide) (.there (.there (.there (.there (.there (.there (.there .here))))))) ?_
    refine egs_nil ?_
    refine sl_cons (ss_set c (i := 8) rfl rfl ?_)
    refine ee_smeth c f_step_of wc.cls (by decide) (i := 0) rfl rfl rfl (by repeat (first | exact Has.here | apply Has.there)) (by rfl) ?_
    refine ea_cons ?_
    refine ee_var c (i := 7) rfl rfl rfl ?_
    refine ea_nil ?_
    refine ⟨_, _, _, .rd (by repeat (first | exact OutA.here | apply OutA.there)) (.rd (by repeat (first | exact OutA.here | apply OutA.there)) (.nil _)), ⟨dx, gs.length, k, l, w, _, known, cc, (0, v), rfl, rfl, hcv, rfl⟩, rfl, ?_⟩
    rintro _ _ ⟨rfl, rfl⟩
    refine ⟨_, (.there (.there (.there (.there (.there (.there (.there (.there .here)))))))), ?_⟩
    refine sl_pm (List.Perm.append_right [_, _] (List.perm_append_comm (l₁ := [_, _]) (l₂ := [_, _]))) ?_
    refine sl_cons (ss_set c (i := 9) rfl rfl ?_)
    refine ee_mono (Q' := fun d st1 => d = .int (tm i x v) ∧ st1 = [⟨pr, true, .lst [.int x.1, .int x.2]⟩, ⟨p1, true, .lst (ln.map dF)⟩, ⟨w, false, .ins C dx (fsS gs.length k l s a b)⟩, ⟨k, true, .lst (known.map dS)⟩, ⟨l, true, .lst (lines.map dL)⟩, ⟨s, false, .dic (kvP ps)⟩]) (ee_ifx ?_) ?_
    · refine et_neI ?_
      refine ee_ixT ?_
      refine ee_var c (i := 8) rfl rfl rfl ?_
      refine ee_var c (i := 6) rfl rfl rfl ?_
      refine ⟨_, _, _, rfl, rfl, atCmp hi v, ?_⟩
      refine ee_int ?_
      refine ⟨_, _, rfl, rfl, ?_⟩
      refine ⟨fun h3 => ?_, fun h3 => ?_⟩
      · refine isT ?_
        refine ee_fdiv ?_
        refine ee_ixL ?_
        refine ee_var c (i := 5) rfl rfl rfl ?_
        refine ee_var c (i := 6) rfl rfl rfl ?_
        refine ⟨_, _, _, .int (cmp i x), rfl, .here, rfl, atCmp hi x, ?_⟩
        refine ee_ixT ?_
        refine ee_var c (i := 8) rfl rfl rfl ?_
        refine ee_var c (i := 6) rfl rfl rfl ?_
        refine ⟨_, _, _, rfl, rfl, atCmp hi v, ?_⟩
        refine ⟨_, _, rfl, rfl, hbc.divOk h3 (by omega), ?_⟩
        exact ⟨by rw [tm, if_pos h3], rfl⟩
      · refine isF ?_
        refine ee_int ?_
        exact ⟨by rw [tm, if_neg h3], rfl⟩
    · rintro _ _ ⟨rfl, rfl⟩
      refine ⟨_, (.there (.there (.there (.there (.there (.there (.there (.there (.there .here))))))))), ?_⟩
      refine sl_cons (ss_set c (i := 5) rfl rfl ?_)
      refine ee_lst ?_
      refine ea_cons ?_
      refine ee_sub ?_
      refine ee_ixL ?_
      refine ee_var c (i := 5) rfl rfl rfl ?_
      refine ee_int ?_
      refine ⟨_, _, _, .int x.1, rfl, .here, rfl, rfl, ?_⟩
      refine ee_mulO ?_
      refine ee_var c (i := 9) rfl rfl rfl ?_
      refine ee_ixT ?_
      refine ee_var c (i := 8) rfl rfl rfl ?_
      refine ee_int ?_
      refine ⟨_, _, _, rfl, rfl, rfl, ?_⟩
      refine ⟨_, _, rfl, rfl, hbt.mulOk hbv.1 (by omega), ?_⟩
      refine ⟨_, _, rfl, rfl, ?_⟩
      refine ea_cons ?_
      refine ee_sub ?_
      refine ee_ixL ?_
      refine ee_var c (i := 5) rfl rfl rfl ?_
      refine ee_int ?_
      refine ⟨_, _, _, .int x.2, rfl, .here, rfl, rfl, ?_⟩
      refine ee_mulO ?_
      refine ee_var c (i := 9) rfl rfl rfl ?_
      refine ee_ixT ?_
      refine ee_var c (i := 8) rfl rfl rfl ?_
      refine ee_int ?_
      refine ⟨_, _, _, rfl, rfl, rfl, ?_⟩
      refine ⟨_, _, rfl, rfl, hbt.mulOk hbv.2 (by omega), ?_⟩
      refine ⟨_, _, rfl, rfl, ?_⟩
      refine ea_nil ?_
      refine ⟨Nat.le_of_ble_eq_true rfl, fun p4 => ?_⟩
      refine ⟨_, (.there (.there (.there (.there (.there .here))))), ?_⟩
      refine sl_cons (ss_expr ?_)
      refine ee_append ?_
      refine ee_var c (i := 2) rfl rfl rfl ?_
      refine ⟨_, _, rfl, (by repeat (first | exact Has.here | apply Has.there)), ?_⟩
      refine ee_tup ?_
      refine ea_cons ?_
      refine ee_var c (i := 7) rfl rfl rfl ?_
      refine ea_cons ?_
      refine ee_var c (i := 9) rfl rfl rfl ?_
      refine ea_nil ?_
      refine ⟨Nat.le_of_ble_eq_true rfl, ?_⟩
      refine ⟨_, _, (by repeat (first | exact Put.here | apply Put.there)), by rw [List.length_map]; have := sizeLine_big; omega, ?_⟩
      refine sl_st (.cons_cons _ (.cons _ (.refl _))) ?_
      refine sl_nil ?_
      refine ⟨_, rst i x v, ln ++ [(cc, tm i x v)], _, _, _, _, rfl, ?_, hL2, ?_, fun f hf => ?_⟩
      · rw [List.map_append]; rfl
      · exact rst_bv hbx hbv (by omega)
      · rcases List.mem_append.mp hf with hf | hf
        · exact hfo f hf
        · simp at hf; subst hf
          exact fok_of hcv (hbv.mono (by omega)) (hbt.mono (by omega))
  · rintro en2 st2 ⟨pr, x, ln, o6, o7, o8, o9, rfl, rfl, hL, hbx, hfo⟩
    have hL : LS pp.2 a b (vsub sym.2 g.2) s0 s1 2 x ln := hL
    refine sl_cons (ss_expr ?_)
    refine ee_smeth c f_write wc.cls (by decide) (i := 0) rfl rfl rfl (by repeat (first | exact Has.here | apply Has.there)) (by rfl) ?_
    refine ea_cons ?_
    refine ee_tupleL c (i := 1) rfl mb.tuple ?_
    refine ee_var c (i := 2) rfl rfl rfl ?_
    refine ⟨_, _, rfl, (by repeat (first | exact Has.here | apply Has.there)), ?_⟩
    refine ea_nil ?_
    have hln3 := hL.len
    refine ⟨_, _, _, .rd (by repeat (first | exact OutA.here | apply OutA.there)) (.wr (by repeat (first | exact OutA.here | apply OutA.there)) (.wr (by repeat (first | exact OutA.here | apply OutA.there)) (.nil _))), ⟨dx, _, k, l, w, _, known, lines, ln, rfl, rfl, hfo, by omega, by omega, rfl⟩, rfl, ?_⟩
    rintro _ _ ⟨rfl, rfl⟩
    refine sl_nil ?_
    have hval : lineVal known ln = sym := by
      cases hL
      exact lv_sym hkp hT.ka hT.kb hgk hT.st.B.f0 hT.st.x1 hs01
    have hWf := hT.ws.snoc (l := ln) (by omega) (by omega) hfo
    rw [hval] at hWf
    rw [hval]
    exact ⟨_, .cons_cons _ (.cons_cons _ (List.nil_sublist _)), fun e he => by simp at he; rcases he with rfl | rfl <;> rfl, rfl, ln, rfl, hWf⟩
def W_program_by : Spec := Pu fun ds p => ∃ (n : Nat) (gs : List Sy) (sym : Sy), ds = [dG gs, dS sym] ∧ n ≤ 6 ∧ GB n gs ∧ InG gs sym ∧ BV 6000 sym.2 ∧ p = fun d => ∃ pr, d = dP pr ∧ PB gs pr ∧ pr ≠ [] ∧ valOf gs pr = sym ∧ pr.length ≤ 300000
theorem ok_program_by {f C : Addr} {fd : FuncData} (Fu : FunT K "program_by" 61 [] f fd) (wc : WC K C) (mb : MB mg) (mc : MC K mg) (f_Writer : Mkr P w K mg base "Writer" C 10 2 (W___init__ C)) (f_write_symmetry : Mt P w K mg base C "write_symmetry" 8 2 (W_write_symmetry C)) : FnOk P w K mg base CX0 12 f fd ["generators", "symmetry"] (spW K 2 W_program_by) := by
  refine fnok_mk (N := ["generators", "symmetry", "writer"]) (Gs := ["Writer", "tuple"]) (Vi := [0, 1, 2]) Fu ⟨rfl, rfl, rfl, by decide +kernel, rfl, by decide +kernel, by decide +kernel⟩ (by decide +kernel) rfl ?_
  rintro X F want ds R c hsc ⟨rfl, p, ⟨n, gs, sym, rfl, hn, hg, hin, hby, rfl⟩, rfl⟩ hl hF
  show SL X F _ [some _, some _, none] _ _ _
  refine sl_cons (ss_set c (i := 2) rfl rfl ?_)
  refine ee_make c (i := 0) f_Writer (by decide) rfl ?_
  refine ea_cons ?_
  refine ee_var c (i := 0) rfl rfl rfl ?_
  refine ea_nil ?_
  intro w dx
  refine ⟨_, _, _, .wr (by repeat (first | exact OutA.here | apply OutA.there)) (.nil _), ⟨n, gs, dx, w, rfl, rfl, hg, hn, rfl⟩, rfl, ?_⟩
  rintro _ _ ⟨rfl, k, l, s, ps, known, lines, a, b, s0, s1, rfl, hS, hT⟩
  refine ⟨rfl, ?_⟩
  refine ⟨_, (.there (.there .here)), ?_⟩
  refine sl_cons (ss_expr ?_)
  refine ee_smeth c f_write_symmetry wc.cls (by decide) (i := 2) rfl rfl rfl (by repeat (first | exact Has.here | apply Has.there)) (by rfl) ?_
  refine ea_cons ?_
  refine ee_var c (i := 1) rfl rfl rfl ?_
  refine ea_nil ?_
  refine ⟨_, _, _, .rd (by repeat (first | exact OutA.here | apply OutA.there)) (.wr (by repeat (first | exact OutA.here | apply OutA.there)) (.wr (by repeat (first | exact OutA.here | apply OutA.there)) (.rd (by repeat (first | exact OutA.here | apply OutA.there)) (.nil _)))), ⟨n, gs, dx, k, l, w, s, ps, known, lines, a, b, s0, s1, sym, rfl, rfl, hg, hn, hS, hT, hin, hby, rfl⟩, rfl, ?_⟩
  rintro _ _ ⟨rfl, ln, rfl, hW⟩
  refine sl_cons (ss_ret ?_)
  refine ee_tupleL c (i := 1) rfl mb.tuple ?_
  refine ee_self c (i := 2) rfl rfl rfl wc.cls wc.n_lines (by repeat (first | exact Has.here | apply Has.there)) (by rfl) ?_
  refine ⟨_, _, rfl, (by repeat (first | exact Has.here | apply Has.there)), ?_⟩
  have hll := hT.ll
  have hol : (offs gs (ps.map Prod.fst)).length ≤ 48 := off_len hg hS
  exact .pure ⟨⟨lines ++ [ln], rfl, hW.pb, by simp, valOf_run hW, by simp; omega⟩, rfl⟩
def W_connect : Spec := Pu fun ds p => ∃ (n : Nat) (gs : List Sy) (a q : V2), ds = [dG gs, dV a, dV q] ∧ n ≤ 6 ∧ GB n gs ∧ BV 4000 a ∧ BV 4000 q ∧ p = fun d =>
  (∃ sq : List V2, d = .tup [.str "apart", dVs sq] ∧ BL 5000 sq ∧ sq.length < 64 ∧ OrbSq gs a sq ∧ ¬ Orb gs a q) ∨
  (∃ pr : List Ln, d = .tup [.str "program", dP pr] ∧ PB gs pr ∧ pr ≠ [] ∧ img (valOf gs pr) a = q ∧ InG gs (valOf gs pr) ∧ BV 6000 (valOf gs pr).2 ∧ pr.length ≤ 300000)
theorem ok_connect {f : Addr} {fd : FuncData} (Fu : FunT K "connect" 71 [] f fd) (mb : MB mg) (mc : MC K mg) (f_need_all : Fn P w K mg base "need_all" 6 3 [] W_need_all) (f_describe_by : Fn P w K mg base "describe_by" 5 1 [] W_describe_by) (f_carrying : Fn P w K mg base "carrying" 5 3 [] W_carrying) (f_program_by : Fn P w K mg base "program_by" 12 2 [] W_program_by) (f_images_of : Fn P w K mg base "images_of" 4 2 [] W_images_of) : FnOk P w K mg base CX0 13 f fd ["generators", "start", "goal"] (spW K 3 W_connect) := by
  refine fnok_mk (N := ["generators", "start", "goal", "description", "found"]) (Gs := ["need_all", "describe_by", "carrying", "APART", "tuple", "images_of", "PROGRAM", "program_by"]) (Vi := [0, 1, 2, 3, 4]) Fu ⟨rfl, rfl, rfl, by decide +kernel, rfl, by decide +kernel, by decide +kernel⟩ (by decide +kernel) rfl ?_
  rintro X F want ds R c hsc ⟨rfl, p, ⟨n, gs, a, q, rfl, hn, hg, ha, hq, rfl⟩, rfl⟩ hl hF
  show SL X F _ [some _, some _, some _, none, none] _ _ _
  refine sl_cons (ss_expr ?_)
  refine ee_pcall c (i := 0) f_need_all (by decide) rfl ?_
  refine ea_cons ?_
  refine ee_var c (i := 0) rfl rfl rfl ?_
  refine ea_cons ?_
  refine ee_var c (i := 1) rfl rfl rfl ?_
  refine ea_cons ?_
  refine ee_var c (i := 2) rfl rfl rfl ?_
  refine ea_nil ?_
  refine ⟨_, ⟨_, _, _, rfl, hg.1, rfl⟩, rfl, ?_⟩
  rintro _ rfl
  refine sl_cons (ss_set c (i := 3) rfl rfl ?_)
  refine ee_pcall c (i := 1) f_describe_by (by decide) rfl ?_
  refine ea_cons ?_
  refine ee_var c (i := 0) rfl rfl rfl ?_
  refine ea_nil ?_
  refine ⟨_, ⟨n, gs, rfl, by omega, hg, rfl⟩, rfl, ?_⟩
  rintro _ ⟨b, ms, rfl, hD⟩
  refine ⟨_, (.there (.there (.there .here))), ?_⟩
  refine sl_cons (ss_set c (i := 4) rfl rfl ?_)
  refine ee_call c (i := 2) f_carrying (by decide) rfl ?_
  refine ea_cons ?_
  refine ee_var c (i := 3) rfl rfl rfl ?_
  refine ea_cons ?_
  refine ee_var c (i := 1) rfl rfl rfl ?_
  refine ea_cons ?_
  refine ee_var c (i := 2) rfl rfl rfl ?_
  refine ea_nil ?_
  refine ⟨[], _, _, .nil _, ⟨n, gs, b, ms, a, q, rfl, rfl, by omega, hD, ha.mono (by omega), hq.mono (by omega), rfl⟩, rfl, ?_⟩
  rintro _ _ ⟨pF, fs, rfl, rfl, hC⟩
  refine ⟨_, (.there (.there (.there (.there .here)))), ?_⟩
  refine sl_cons (ss_if ?_)
  refine et_eqNil c ?_
  refine ee_var c (i := 4) rfl rfl rfl ?_
  refine ⟨_, _, rfl, .here, by first | rfl | exact pls_dSl _ | exact pls_dVl _ | exact pls_ints _ | exact pls_dKl _, ?_⟩
  refine ⟨fun h1 => ?_, fun h1 => ?_⟩
  · refine isT ?_
    refine sl_cons (ss_ret ?_)
    refine ee_tup ?_
    refine ea_cons ?_
    refine ee_glob c (j := 3) mc.APART rfl ?_
    refine ea_cons ?_
    refine ee_tupleL c (i := 4) rfl mb.tuple ?_
    refine ee_call c (i := 5) f_images_of (by decide) rfl ?_
    refine ea_cons ?_
    refine ee_var c (i := 3) rfl rfl rfl ?_
    refine ea_cons ?_
    refine ee_var c (i := 1) rfl rfl rfl ?_
    refine ea_nil ?_
    refine ⟨[], _, _, .nil _, ⟨n, gs, b, ms, a, rfl, rfl, by omega, hD, ha.mono (by omega), rfl⟩, rfl, ?_⟩
    rintro _ _ ⟨pI, vs, rfl, rfl, hvm, hvs, hvl⟩
    refine ⟨_, _, rfl, .here, ?_⟩
    refine ea_nil ?_
    refine ⟨Nat.le_of_ble_eq_true rfl, ?_⟩
    have hf0 : fs = [] := List.map_eq_nil_iff.mp h1
    subst hf0
    refine .pure ⟨.inl ⟨vs, rfl, fun v hv => ?_, hvl, imgs_orb hD.toIsDesc hvm, hC.none hD.toIsDesc⟩, rfl⟩
    obtain ⟨m, hm, rfl⟩ := List.mem_map.mp ((hvm v).mp hv)
    exact (BV.red hD.nf hD.bb (BV.img (hD.bm m hm) ha (k := 4001) (by omega) (by omega))).mono (by omega)
  · refine isF ?_
    refine sl_nil ?_
    refine sl_cons (ss_ret ?_)
    refine ee_tup ?_
    refine ea_cons ?_
    refine ee_glob c (j := 6) mc.PROGRAM rfl ?_
    refine ea_cons ?_
    refine ee_pcall c (i := 7) f_program_by (by decide) rfl ?_
    refine ea_cons ?_
    refine ee_var c (i := 0) rfl rfl rfl ?_
    refine ea_cons ?_
    refine ee_ixL ?_
    refine ee_var c (i := 4) rfl rfl rfl ?_
    refine ee_int ?_
    obtain ⟨f0, fr, rfl⟩ : ∃ f0 fr, fs = f0 :: fr := by
      cases fs with
      | nil => exact absurd rfl h1
      | cons x y => exact ⟨x, y, rfl⟩
    obtain ⟨hin, him, hbf⟩ := hC.ok f0 List.mem_cons_self
    refine ⟨_, _, _, dS f0, rfl, .here, rfl, atI_nat (j := 0) rfl, ?_⟩
    refine ea_nil ?_
    refine ⟨_, ⟨n, gs, f0, rfl, hn, hg, hin, hbf, rfl⟩, rfl, ?_⟩
    rintro _ ⟨pr, rfl, hP, hne, hv, hpl⟩
    refine ea_nil ?_
    refine ⟨Nat.le_of_ble_eq_true rfl, ?_⟩
    exact .pure ⟨.inr ⟨pr, rfl, hP, hne, by rw [hv]; exact him, by rw [hv]; exact hin, by rw [hv]; exact hbf, hpl⟩, rfl⟩
end G
end
section
set_option Elab.async false
set_option linter.all false
set_option maxRecDepth 100000
set_option maxHeartbeats 4000000
/-! L1: the law's small helpers, plainly. -/
namespace G
open PySem L2
def rot (v : V2) : V2 := (0 - v.2, v.1)
def rotN : Nat → V2 → V2
  | 0, v => v
  | n + 1, v => rot (rotN n v)
def mir (k : Fin 8) (v : V2) : V2 := if 3 < ((k.val : Nat) : Int) then (0 - v.1, v.2) else v
theorem lin_rot (k : Fin 8) (v : V2) : lin k v = rotN (((k.val : Nat) : Int).fmod 4).toNat (mir k v) := by
  refine kall (p := fun k => lin k v = rotN (((k.val : Nat) : Int).fmod 4).toNat (mir k v)) ?_ k
  refine ⟨?_, ?_, ?_, ?_, ?_, ?_, ?_, ?_⟩
  · show lin 0 v = rotN 0 v
    refine v2_ext ?_ ?_ <;> simp [lin, show LIN 0 = (1, 0, 0, 1) from rfl, rotN]
  · show lin 1 v = rotN 1 v
    refine v2_ext ?_ ?_ <;> simp [lin, show LIN 1 = (0, -1, 1, 0) from rfl, rotN, rot]
  · show lin 2 v = rotN 2 v
    refine v2_ext ?_ ?_ <;> simp [lin, show LIN 2 = (-1, 0, 0, -1) from rfl, rotN, rot]
  · show lin 3 v = rotN 3 v
    refine v2_ext ?_ ?_ <;> simp [lin, show LIN 3 = (0, 1, -1, 0) from rfl, rotN, rot]
  · show lin 4 v = rotN 0 (0 - v.1, v.2)
    refine v2_ext ?_ ?_ <;> simp [lin, show LIN 4 = (-1, 0, 0, 1) from rfl, rotN, rot]
  · show lin 5 v = rotN 1 (0 - v.1, v.2)
    refine v2_ext ?_ ?_ <;> simp [lin, show LIN 5 = (0, -1, -1, 0) from rfl, rotN, rot]
  · show lin 6 v = rotN 2 (0 - v.1, v.2)
    refine v2_ext ?_ ?_ <;> simp [lin, show LIN 6 = (1, 0, 0, -1) from rfl, rotN, rot]
  · show lin 7 v = rotN 3 (0 - v.1, v.2)
    refine v2_ext ?_ ?_ <;> simp [lin, show LIN 7 = (0, 1, 1, 0) from rfl, rotN, rot]
theorem lk_mod (k : Fin 8) : 0 ≤ ((k.val : Nat) : Int).fmod 4 ∧ ((k.val : Nat) : Int).fmod 4 < 4 := ⟨Int.fmod_nonneg_of_pos _ (by decide), Int.fmod_lt_of_pos _ (by decide)⟩
theorem lk_mul1 : ∀ a b : Fin 8, 3 < ((b.val : Nat) : Int) → 4 * ((((a.val : Nat) : Int).fdiv 4 + ((b.val : Nat) : Int).fdiv 4).fmod 2) + ((0 - ((a.val : Nat) : Int).fmod 4) + ((b.val : Nat) : Int)).fmod 4 = (((kmul a b).val : Nat) : Int) := by decide +kernel
theorem lk_mul2 : ∀ a b : Fin 8, ¬ 3 < ((b.val : Nat) : Int) → 4 * ((((a.val : Nat) : Int).fdiv 4 + ((b.val : Nat) : Int).fdiv 4).fmod 2) + (((a.val : Nat) : Int).fmod 4 + ((b.val : Nat) : Int)).fmod 4 = (((kmul a b).val : Nat) : Int) := by decide +kernel
theorem lk_inv1 : ∀ a : Fin 8, 3 < ((a.val : Nat) : Int) → a = kinv a := by decide +kernel
theorem lk_inv2 : ∀ a : Fin 8, ¬ 3 < ((a.val : Nat) : Int) → (0 - ((a.val : Nat) : Int)).fmod 4 = (((kinv a).val : Nat) : Int) := by decide +kernel
/-- the source of draws -/
def SRC (a b : Int) : Prop := 0 ≤ a ∧ 0 ≤ b ∧ b < 2147483647
def sO (a b c : Int) : SO := .lst [.int a, .int b, .int c]
theorem fin8_of {r : Int} (h0 : 0 ≤ r) (h1 : r < 8) : ∃ k : Fin 8, r = ((k.val : Nat) : Int) := ⟨⟨r.toNat, by omega⟩, by show r = ((r.toNat : Nat) : Int); omega⟩
end G
end
section
set_option Elab.async false
set_option linter.all false
set_option maxRecDepth 100000
set_option maxHeartbeats 4000000
namespace G
open PySem L2
variable {P : Program} {w : World} {K : PySem.W.Frag} {mg : Str → Option Value} {base : Heap}
def W__law_divisor : Spec := Pu fun ds p => ∃ a b : Int, ds = [.int a, .int b] ∧ p = fun d => d = .int (Int.gcd a b : Nat)
theorem ok__law_divisor {f : Addr} {fd : FuncData} (Fu : FunT K "_law_divisor" 75 [] f fd) (mb : MB mg) (mc : MC K mg) : FnOk P w K mg base CX0 1 f fd ["_law_one", "_law_other"] (spW K 2 W__law_divisor) := by
  refine fnok_mk (N := ["_law_one", "_law_other"]) (Gs := ["abs"]) (Vi := [0, 1]) Fu ⟨rfl, rfl, rfl, by decide +kernel, rfl, by decide +kernel, by decide +kernel⟩ (by decide +kernel) rfl ?_
  rintro X F want ds R c hsc ⟨rfl, p, ⟨a, b, rfl, rfl⟩, rfl⟩ hl hF
  show SL X F _ [some _, some _] _ _ _
  refine sl_cons (ss_while c (fun m en st => ∃ x y : Int, en = [some (.int x), some (.int y)] ∧ st = [] ∧ Int.gcd x y = Int.gcd a b ∧ m = y.natAbs) ⟨_, a, b, rfl, rfl, rfl, rfl⟩ ?_)
  rintro m en1 st1 ⟨x, y, rfl, rfl, hg, rfl⟩
  refine et_neI ?_
  refine ee_var c (i := 1) rfl rfl rfl ?_
  refine ee_int ?_
  refine ⟨_, _, rfl, rfl, ?_⟩
  refine ⟨fun h1 => ?_, fun h1 => ?_⟩
  · refine isT ?_
    refine sl_cons (ss_par2 c (i := 0) (j := 1) rfl rfl rfl rfl (by rw [hsc]; rfl) (by rw [hsc]; rfl) ?_)
    refine ea_cons ?_
    refine ee_var c (i := 1) rfl rfl rfl ?_
    refine ea_cons ?_
    refine ee_mod ?_
    refine ee_var c (i := 0) rfl rfl rfl ?_
    refine ee_var c (i := 1) rfl rfl rfl ?_
    refine ⟨_, _, rfl, rfl, h1, ?_⟩
    refine ea_nil ?_
    refine ⟨_, _, _, _, rfl, .here, (.there .here), ?_⟩
    refine sl_nil ?_
    exact ⟨_, natAbs_fmod h1, _, _, rfl, rfl, (gcd_fmod x y).trans hg, rfl⟩
  · refine isF ?_
    refine sl_cons (ss_ret ?_)
    refine ee_abs c (i := 0) rfl mb.abs ?_
    refine ee_var c (i := 0) rfl rfl rfl ?_
    refine ⟨_, rfl, ?_⟩
    have e : y = 0 := by omega
    subst e
    exact .pure ⟨by rw [← hg, Int.gcd_zero_right], rfl⟩
def W__law_cell : Spec := Pu fun ds p => ∃ (ns : List Int) (i : Nat), ds = [.scr ns, .int (i : Nat)] ∧ p = fun d => ∃ z : Int, d = .int z
theorem ok__law_cell {f : Addr} {fd : FuncData} (Fu : FunT K "_law_cell" 79 [] f fd) (mb : MB mg) (mc : MC K mg) : FnOk P w K mg base CX0 1 f fd ["_law_script", "_law_index"] (spW K 2 W__law_cell) := by
  refine fnok_mk (N := ["_law_script", "_law_index"]) (Gs := ["len"]) (Vi := [0, 1]) Fu ⟨rfl, rfl, rfl, by decide +kernel, rfl, by decide +kernel, by decide +kernel⟩ (by decide +kernel) rfl ?_
  rintro X F want ds R c hsc ⟨rfl, p, ⟨ns, i, rfl, rfl⟩, rfl⟩ hl hF
  show SL X F _ [some _, some _] _ _ _
  refine sl_cons (ss_if ?_)
  refine et_lt ?_
  refine ee_var c (i := 1) rfl rfl rfl ?_
  refine ee_lenS c (i := 0) rfl mb.len ?_
  refine ee_var c (i := 0) rfl rfl rfl ?_
  refine ⟨_, rfl, ?_⟩
  refine ⟨_, _, rfl, rfl, ?_⟩
  refine ⟨fun h1 => ?_, fun h1 => ?_⟩
  · refine isT ?_
    refine sl_cons (ss_ret ?_)
    refine ee_ixS ?_
    refine ee_var c (i := 0) rfl rfl rfl ?_
    refine ee_var c (i := 1) rfl rfl rfl ?_
    have hi : i < ns.length := by omega
    refine ⟨_, _, ns[i], rfl, rfl, atI_nat (by simp [hi]), ?_⟩
    exact .pure ⟨⟨_, rfl⟩, rfl⟩
  · refine isF ?_
    refine sl_nil ?_
    refine sl_cons (ss_ret ?_)
    refine ee_int ?_
    exact .pure ⟨⟨_, rfl⟩, rfl⟩
def W__law_source : Spec := fun want ds R => ∃ z : Int, want = [] ∧ ds = [.int z] ∧ R = fun d st => ∃ (q : Addr) (a b c : Int), d = .ref q ∧ st = [⟨q, true, sO a b c⟩] ∧ SRC a b
theorem ok__law_source {f : Addr} {fd : FuncData} (Fu : FunT K "_law_source" 80 [] f fd) (mb : MB mg) (mc : MC K mg) : FnOk P w K mg base CX0 1 f fd ["_law_cell_here"] (spW K 1 W__law_source) := by
  refine fnok_mk (N := ["_law_cell_here"]) (Gs := ["max"]) (Vi := [0]) Fu ⟨rfl, rfl, rfl, by decide +kernel, rfl, by decide +kernel, by decide +kernel⟩ (by decide +kernel) rfl ?_
  rintro X F want ds R c hsc ⟨z, rfl, rfl, rfl⟩ hl hF
  show SL X F _ [some _] _ _ _
  refine sl_cons (ss_ret ?_)
  refine ee_lst ?_
  refine ea_cons ?_
  refine ee_max c (i := 0) rfl mb.max ?_
  refine ea_cons ?_
  refine ee_int ?_
  refine ea_cons ?_
  refine ee_sub ?_
  refine ee_var c (i := 0) rfl rfl rfl ?_
  refine ee_pow ?_
  refine ee_int ?_
  refine ee_int ?_
  refine ⟨_, _, rfl, rfl, ⟨by decide, by decide, by decide⟩, ?_⟩
  refine ⟨_, _, rfl, rfl, ?_⟩
  refine ea_nil ?_
  refine ⟨_, _, rfl, ?_⟩
  refine ea_cons ?_
  refine ee_add ?_
  refine ee_mod ?_
  refine ee_var c (i := 0) rfl rfl rfl ?_
  refine ee_int ?_
  refine ⟨_, _, rfl, rfl, by decide, ?_⟩
  refine ee_int ?_
  refine ⟨_, _, rfl, rfl, ?_⟩
  refine ea_cons ?_
  refine ee_int ?_
  refine ea_nil ?_
  refine ⟨Nat.le_of_ble_eq_true rfl, fun p1 => ?_⟩
  have h1 := Int.fmod_nonneg_of_pos z (show (0 : Int) < 2147483629 by decide)
  have h2 := Int.fmod_lt_of_pos z (show (0 : Int) < 2147483629 by decide)
  exact ⟨_, .refl _, fun e he => by simp at he; rw [he], p1, _, _, _, rfl, rfl, by omega, by omega, by omega⟩
def W__law_draw : Spec := fun want ds R => ∃ (q : Addr) (a b c m : Int), want = [⟨q, true, sO a b c⟩] ∧ ds = [.ref q, .int m] ∧ 0 < m ∧ m < 1099511627776 ∧ SRC a b ∧ R = fun d st => ∃ (r a' b' c' : Int), d = .int r ∧ 0 ≤ r ∧ r < m ∧ st = [⟨q, true, sO a' b' c'⟩] ∧ SRC a' b'
theorem ok__law_draw {f : Addr} {fd : FuncData} (Fu : FunT K "_law_draw" 81 [] f fd) (mb : MB mg) (mc : MC K mg) : FnOk P w K mg base CX0 1 f fd ["_law_source_here", "_law_many"] (spW K 2 W__law_draw) := by
  refine fnok_mk (N := ["_law_source_here", "_law_many", "_law_found", "_law_mixed"]) (Gs := []) (Vi := [0, 1, 2, 3]) Fu ⟨rfl, rfl, rfl, by decide +kernel, rfl, by decide +kernel, by decide +kernel⟩ (by decide +kernel) rfl ?_
  rintro X F want ds R c hsc ⟨q, a, b, z, m, rfl, rfl, hm, hm2, hs, rfl⟩ hl hF
  show SL X F _ [some _, some _, none, none] _ _ _
  refine sl_cons (ss_if ?_)
  refine et_gt ?_
  refine ee_ixL ?_
  refine ee_var c (i := 0) rfl rfl rfl ?_
  refine ee_int ?_
  refine ⟨_, _, _, .int a, rfl, .here, rfl, rfl, ?_⟩
  refine ee_int ?_
  refine ⟨_, _, rfl, rfl, ?_⟩
  refine ⟨fun h1 => ?_, fun h1 => ?_⟩
  · refine isT ?_
    refine sl_cons (ss_set c (i := 2) rfl rfl ?_)
    refine ee_mod ?_
    refine ee_ixL ?_
    refine ee_var c (i := 0) rfl rfl rfl ?_
    refine ee_int ?_
    refine ⟨_, _, _, .int a, rfl, .here, rfl, rfl, ?_⟩
    refine ee_var c (i := 1) rfl rfl rfl ?_
    refine ⟨_, _, rfl, rfl, by omega, ?_⟩
    refine ⟨_, (.there (.there .here)), ?_⟩
    refine sl_cons (ss_asg (vs := []) ?_ )
    refine ee_fdiv ?_
    refine ee_ixL ?_
    refine ee_var c (i := 0) rfl rfl rfl ?_
    refine ee_int ?_
    refine ⟨_, _, _, .int a, rfl, .here, rfl, rfl, ?_⟩
    refine ee_var c (i := 1) rfl rfl rfl ?_
    refine ⟨_, _, rfl, rfl, ⟨by omega, by have := (show Bt 41 m by unfold Bt; omega).log; omega⟩, ?_⟩
    refine eg_setL ?_
    refine ee_var c (i := 0) rfl rfl rfl ?_
    refine ee_int ?_
    refine ⟨_, _, _, 0, _, rfl, rfl, rfl, .here, ?_⟩
    refine sl_cons (ss_ret ?_)
    refine ee_var c (i := 2) rfl rfl rfl ?_
    exact ⟨_, .refl _, fun e he => by simp at he; rw [he], _, a.fdiv m, b, z, rfl, Int.fmod_nonneg_of_pos a hm, Int.fmod_lt_of_pos a hm, rfl, Int.fdiv_nonneg hs.1 (by omega), hs.2⟩
  · refine isF ?_
    refine sl_nil ?_
    refine sl_cons (ss_asg (vs := []) ?_ )
    refine ee_add ?_
    refine ee_ixL ?_
    refine ee_var c (i := 0) rfl rfl rfl ?_
    refine ee_int ?_
    refine ⟨_, _, _, .int z, rfl, .here, rfl, rfl, ?_⟩
    refine ee_int ?_
    refine ⟨_, _, rfl, rfl, ?_⟩
    refine eg_setL ?_
    refine ee_var c (i := 0) rfl rfl rfl ?_
    refine ee_int ?_
    refine ⟨_, _, _, 2, _, rfl, rfl, rfl, .here, ?_⟩
    refine sl_cons (ss_asg (vs := []) ?_ )
    refine ee_mod ?_
    refine ee_add ?_
    refine ee_add ?_
    refine ee_mulO ?_
    refine ee_ixL ?_
    refine ee_var c (i := 0) rfl rfl rfl ?_
    refine ee_int ?_
    refine ⟨_, _, _, .int b, rfl, .here, rfl, rfl, ?_⟩
    refine ee_int ?_
    refine ⟨_, _, rfl, rfl, mulS2 (by decide), ?_⟩
    refine ee_mulO ?_
    refine ee_int ?_
    refine ee_ixL ?_
    refine ee_var c (i := 0) rfl rfl rfl ?_
    refine ee_int ?_
    refine ⟨_, _, _, .int (z + 1), rfl, .here, rfl, rfl, ?_⟩
    refine ⟨_, _, rfl, rfl, mulS1 (by decide), ?_⟩
    refine ⟨_, _, rfl, rfl, ?_⟩
    refine ee_int ?_
    refine ⟨_, _, rfl, rfl, ?_⟩
    refine ee_int ?_
    refine ⟨_, _, rfl, rfl, by decide, ?_⟩
    refine eg_setL ?_
    refine ee_var c (i := 0) rfl rfl rfl ?_
    refine ee_int ?_
    refine ⟨_, _, _, 1, _, rfl, rfl, rfl, .here, ?_⟩
    generalize hb2 : (b * 48271 + 1009 * (z + 1) + 7).fmod 2147483647 = b2
    have hb3 : 0 ≤ b2 := by rw [← hb2]; exact Int.fmod_nonneg_of_pos _ (by decide)
    have hb4 : b2 < 2147483647 := by rw [← hb2]; exact Int.fmod_lt_of_pos _ (by decide)
    refine sl_cons (ss_set c (i := 3) rfl rfl ?_)
    refine ee_mod ?_
    refine ee_add ?_
    refine ee_add ?_
    refine ee_mulO ?_
    refine ee_ixL ?_
    refine ee_var c (i := 0) rfl rfl rfl ?_
    refine ee_int ?_
    refine ⟨_, _, _, .int b2, rfl, .here, rfl, rfl, ?_⟩
    refine ee_ixL ?_
    refine ee_var c (i := 0) rfl rfl rfl ?_
    refine ee_int ?_
    refine ⟨_, _, _, .int b2, rfl, .here, rfl, rfl, ?_⟩
    refine ⟨_, _, rfl, rfl, mulS1 (by omega), ?_⟩
    refine ee_mulO ?_
    refine ee_int ?_
    refine ee_ixL ?_
    refine ee_var c (i := 0) rfl rfl rfl ?_
    refine ee_int ?_
    refine ⟨_, _, _, .int b2, rfl, .here, rfl, rfl, ?_⟩
    refine ⟨_, _, rfl, rfl, mulS1 (by decide), ?_⟩
    refine ⟨_, _, rfl, rfl, ?_⟩
    refine ee_int ?_
    refine ⟨_, _, rfl, rfl, ?_⟩
    refine ee_int ?_
    refine ⟨_, _, rfl, rfl, by decide, ?_⟩
    refine ⟨_, (.there (.there (.there .here))), ?_⟩
    refine sl_cons (ss_set c (i := 3) rfl rfl ?_)
    refine ee_mod ?_
    refine ee_add ?_
    refine ee_mulO ?_
    refine ee_var c (i := 3) rfl rfl rfl ?_
    refine ee_var c (i := 3) rfl rfl rfl ?_
    have hm5 := Int.fmod_nonneg_of_pos (b2 * b2 + 69621 * b2 + 11) (show (0 : Int) < 2147483629 by decide)
    have hm6 := Int.fmod_lt_of_pos (b2 * b2 + 69621 * b2 + 11) (show (0 : Int) < 2147483629 by decide)
    refine ⟨_, _, rfl, rfl, mulS1 (by omega), ?_⟩
    refine ee_mulO ?_
    refine ee_int ?_
    refine ee_var c (i := 3) rfl rfl rfl ?_
    refine ⟨_, _, rfl, rfl, mulS1 (by decide), ?_⟩
    refine ⟨_, _, rfl, rfl, ?_⟩
    refine ee_int ?_
    refine ⟨_, _, rfl, rfl, by decide, ?_⟩
    refine ⟨_, (.there (.there (.there .here))), ?_⟩
    refine sl_cons (ss_ret ?_)
    refine ee_mod ?_
    refine ee_fdiv ?_
    refine ee_var c (i := 3) rfl rfl rfl ?_
    refine ee_int ?_
    refine ⟨_, _, rfl, rfl, ⟨by decide, by decide⟩, ?_⟩
    refine ee_var c (i := 1) rfl rfl rfl ?_
    refine ⟨_, _, rfl, rfl, by omega, ?_⟩
    exact ⟨_, .refl _, fun e he => by simp at he; rw [he], _, a, b2, z + 1, rfl, Int.fmod_nonneg_of_pos _ hm, Int.fmod_lt_of_pos _ hm, rfl, hs.1, hb3, hb4⟩
def W__law_linear : Spec := Pu fun ds p => ∃ (k : Fin 8) (v : V2), ds = [dK k, dV v] ∧ p = fun d => d = dV (lin k v)
theorem ok__law_linear {f : Addr} {fd : FuncData} (Fu : FunT K "_law_linear" 83 [] f fd) (mb : MB mg) (mc : MC K mg) : FnOk P w K mg base CX0 1 f fd ["_law_kind", "_law_vector"] (spW K 2 W__law_linear) := by
  refine fnok_mk (N := ["_law_kind", "_law_vector", "_law_x", "_law_y", "_law_lap"]) (Gs := ["range"]) (Vi := [0, 1, 2, 3, 4]) Fu ⟨rfl, rfl, rfl, by decide +kernel, rfl, by decide +kernel, by decide +kernel⟩ (by decide +kernel) rfl ?_
  rintro X F want ds R c hsc ⟨rfl, p, ⟨k, v, rfl, rfl⟩, rfl⟩ hl hF
  show SL X F _ [some _, some _, none, none, none] _ _ _
  refine sl_cons (ss_asg (vs := [2, 3]) ?_ )
  refine ee_var c (i := 1) rfl rfl rfl ?_
  refine eg_tup c (n := 2) ?_ rfl
  refine egs_cons ?_
  refine eg_name c (i := 2) rfl rfl (by decide) (.there (.there .here)) ?_
  refine egs_cons ?_
  refine eg_name c (i := 3) rfl rfl (by decide) (.there (.there (.there .here))) ?_
  refine egs_nil ?_
  refine sl_cons (ss_mono (N' := fun en st => en = [some (dK k), some (dV v), some (.int (mir k v).1), some (.int (mir k v).2), none] ∧ st = []) (ss_if ?_) ?_)
  · refine et_gt ?_
    refine ee_var c (i := 0) rfl rfl rfl ?_
    refine ee_int ?_
    refine ⟨_, _, rfl, rfl, ?_⟩
    refine ⟨fun h1 => ?_, fun h1 => ?_⟩
    · refine isT ?_
      refine sl_cons (ss_set c (i := 2) rfl rfl ?_)
      refine ee_sub ?_
      refine ee_int ?_
      refine ee_var c (i := 2) rfl rfl rfl ?_
      refine ⟨_, _, rfl, rfl, ?_⟩
      refine ⟨_, (.there (.there .here)), ?_⟩
      refine sl_nil ?_
      unfold mir
      first | (rw [if_pos h1]; exact ⟨rfl, rfl⟩) | (rw [if_neg h1]; exact ⟨rfl, rfl⟩)
    · refine isF ?_
      refine sl_nil ?_
      unfold mir
      first | (rw [if_pos h1]; exact ⟨rfl, rfl⟩) | (rw [if_neg h1]; exact ⟨rfl, rfl⟩)
  · rintro _ _ ⟨rfl, rfl⟩
    refine sl_cons (ss_for c (vs := [4]) ?_)
    refine ei_rng c (j := 0) rfl mb.range ?_
    refine ee_mod ?_
    refine ee_var c (i := 0) rfl rfl rfl ?_
    refine ee_int ?_
    refine ⟨_, _, rfl, rfl, by decide, ?_⟩
    have hk4 := lk_mod k
    refine ⟨_, rfl, by omega, by omega, ?_⟩
    refine ⟨fun i en st => ∃ o5, en = [some (dK k), some (dV v), some (.int (rotN i (mir k v)).1), some (.int (rotN i (mir k v)).2), o5] ∧ st = [], ⟨none, rfl, rfl⟩, fun _ _ _ _ _ => trivial, ?_, ?_⟩
    · rintro i d en2 st2 hd ⟨o5, rfl, rfl⟩
      refine eg_name c (i := 4) rfl rfl (by decide) (.there (.there (.there (.there .here)))) ?_
      refine sl_cons (ss_par2 c (i := 2) (j := 3) rfl rfl rfl rfl (by rw [hsc]; rfl) (by rw [hsc]; rfl) ?_)
      refine ea_cons ?_
      refine ee_sub ?_
      refine ee_int ?_
      refine ee_var c (i := 3) rfl rfl rfl ?_
      refine ⟨_, _, rfl, rfl, ?_⟩
      refine ea_cons ?_
      refine ee_var c (i := 2) rfl rfl rfl ?_
      refine ea_nil ?_
      refine ⟨_, _, _, _, rfl, (.there (.there .here)), (.there (.there (.there .here))), ?_⟩
      refine sl_nil ?_
      exact ⟨_, rfl, rfl⟩
    · rintro en2 st2 ⟨o5, rfl, rfl⟩
      rw [List.length_map, List.length_range]
      refine sl_cons (ss_ret ?_)
      refine ee_tup ?_
      refine ea_cons ?_
      refine ee_var c (i := 2) rfl rfl rfl ?_
      refine ea_cons ?_
      refine ee_var c (i := 3) rfl rfl rfl ?_
      refine ea_nil ?_
      refine ⟨Nat.le_of_ble_eq_true rfl, ?_⟩
      exact .pure ⟨by rw [lin_rot]; rfl, rfl⟩
def W__law_image : Spec := Pu fun ds p => ∃ (s : Sy) (v : V2), ds = [dS s, dV v] ∧ p = fun d => d = dV (img s v)
theorem ok__law_image {f : Addr} {fd : FuncData} (Fu : FunT K "_law_image" 84 [] f fd) (mb : MB mg) (mc : MC K mg) (f__law_linear : Fn P w K mg base "_law_linear" 1 2 [] W__law_linear) : FnOk P w K mg base CX0 2 f fd ["_law_symmetry_here", "_law_square_here"] (spW K 2 W__law_image) := by
  refine fnok_mk (N := ["_law_symmetry_here", "_law_square_here", "_law_x", "_law_y"]) (Gs := ["_law_linear"]) (Vi := [0, 1, 2, 3]) Fu ⟨rfl, rfl, rfl, by decide +kernel, rfl, by decide +kernel, by decide +kernel⟩ (by decide +kernel) rfl ?_
  rintro X F want ds R c hsc ⟨rfl, p, ⟨s, v, rfl, rfl⟩, rfl⟩ hl hF
  show SL X F _ [some _, some _, none, none] _ _ _
  refine sl_cons (ss_asg (vs := [2, 3]) ?_ )
  refine ee_pcall c (i := 0) f__law_linear (by decide) rfl ?_
  refine ea_cons ?_
  refine ee_ixT ?_
  refine ee_var c (i := 0) rfl rfl rfl ?_
  refine ee_int ?_
  refine ⟨_, _, _, rfl, rfl, rfl, ?_⟩
  refine ea_cons ?_
  refine ee_var c (i := 1) rfl rfl rfl ?_
  refine ea_nil ?_
  refine ⟨_, ⟨s.1, v, rfl, rfl⟩, rfl, ?_⟩
  rintro _ rfl
  refine eg_tup c (n := 2) ?_ rfl
  refine egs_cons ?_
  refine eg_name c (i := 2) rfl rfl (by decide) (.there (.there .here)) ?_
  refine egs_cons ?_
  refine eg_name c (i := 3) rfl rfl (by decide) (.there (.there (.there .here))) ?_
  refine egs_nil ?_
  refine sl_cons (ss_ret ?_)
  refine ee_tup ?_
  refine ea_cons ?_
  refine ee_add ?_
  refine ee_var c (i := 2) rfl rfl rfl ?_
  refine ee_ixT ?_
  refine ee_var c (i := 0) rfl rfl rfl ?_
  refine ee_int ?_
  refine ⟨_, _, _, rfl, rfl, rfl, ?_⟩
  refine ⟨_, _, rfl, rfl, ?_⟩
  refine ea_cons ?_
  refine ee_add ?_
  refine ee_var c (i := 3) rfl rfl rfl ?_
  refine ee_ixT ?_
  refine ee_var c (i := 0) rfl rfl rfl ?_
  refine ee_int ?_
  refine ⟨_, _, _, rfl, rfl, rfl, ?_⟩
  refine ⟨_, _, rfl, rfl, ?_⟩
  refine ea_nil ?_
  refine ⟨Nat.le_of_ble_eq_true rfl, ?_⟩
  exact .pure ⟨rfl, rfl⟩
def W__law_product : Spec := Pu fun ds p => ∃ (a b : Sy), ds = [dS a, dS b] ∧ p = fun d => d = dS (mul a b)
theorem ok__law_product {f : Addr} {fd : FuncData} (Fu : FunT K "_law_product" 85 [] f fd) (mb : MB mg) (mc : MC K mg) (f__law_image : Fn P w K mg base "_law_image" 2 2 [] W__law_image) : FnOk P w K mg base CX0 3 f fd ["_law_first", "_law_second"] (spW K 2 W__law_product) := by
  refine fnok_mk (N := ["_law_first", "_law_second", "_law_turns", "_law_mirrored"]) (Gs := ["_law_image"]) (Vi := [0, 1, 2, 3]) Fu ⟨rfl, rfl, rfl, by decide +kernel, rfl, by decide +kernel, by decide +kernel⟩ (by decide +kernel) rfl ?_
  rintro X F want ds R c hsc ⟨rfl, p, ⟨a, b, rfl, rfl⟩, rfl⟩ hl hF
  show SL X F _ [some _, some _, none, none] _ _ _
  refine sl_cons (ss_set c (i := 2) rfl rfl ?_)
  refine ee_mod ?_
  refine ee_ixT ?_
  refine ee_var c (i := 0) rfl rfl rfl ?_
  refine ee_int ?_
  refine ⟨_, _, _, rfl, rfl, rfl, ?_⟩
  refine ee_int ?_
  refine ⟨_, _, rfl, rfl, by decide, ?_⟩
  refine ⟨_, (.there (.there .here)), ?_⟩
  refine sl_cons (ss_if ?_)
  refine et_gt ?_
  refine ee_ixT ?_
  refine ee_var c (i := 1) rfl rfl rfl ?_
  refine ee_int ?_
  refine ⟨_, _, _, rfl, rfl, rfl, ?_⟩
  refine ee_int ?_
  refine ⟨_, _, rfl, rfl, ?_⟩
  refine ⟨fun h1 => ?_, fun h1 => ?_⟩
  · refine isT ?_
    refine sl_cons (ss_set c (i := 2) rfl rfl ?_)
    refine ee_sub ?_
    refine ee_int ?_
    refine ee_var c (i := 2) rfl rfl rfl ?_
    refine ⟨_, _, rfl, rfl, ?_⟩
    refine ⟨_, (.there (.there .here)), ?_⟩
    refine sl_nil ?_
    refine sl_cons (ss_set c (i := 3) rfl rfl ?_)
    refine ee_mod ?_
    refine ee_add ?_
    refine ee_fdiv ?_
    refine ee_ixT ?_
    refine ee_var c (i := 0) rfl rfl rfl ?_
    refine ee_int ?_
    refine ⟨_, _, _, rfl, rfl, rfl, ?_⟩
    refine ee_int ?_
    refine ⟨_, _, rfl, rfl, ⟨by decide, by decide⟩, ?_⟩
    refine ee_fdiv ?_
    refine ee_ixT ?_
    refine ee_var c (i := 1) rfl rfl rfl ?_
    refine ee_int ?_
    refine ⟨_, _, _, rfl, rfl, rfl, ?_⟩
    refine ee_int ?_
    refine ⟨_, _, rfl, rfl, ⟨by decide, by decide⟩, ?_⟩
    refine ⟨_, _, rfl, rfl, ?_⟩
    refine ee_int ?_
    refine ⟨_, _, rfl, rfl, by decide, ?_⟩
    refine ⟨_, (.there (.there (.there .here))), ?_⟩
    refine sl_cons (ss_ret ?_)
    refine ee_catT ?_
    refine ee_tup ?_
    refine ea_cons ?_
    refine ee_add ?_
    refine ee_mulO ?_
    refine ee_int ?_
    refine ee_var c (i := 3) rfl rfl rfl ?_
    refine ⟨_, _, rfl, rfl, mulS1 (by decide), ?_⟩
    refine ee_mod ?_
    refine ee_add ?_
    refine ee_var c (i := 2) rfl rfl rfl ?_
    refine ee_ixT ?_
    refine ee_var c (i := 1) rfl rfl rfl ?_
    refine ee_int ?_
    refine ⟨_, _, _, rfl, rfl, rfl, ?_⟩
    refine ⟨_, _, rfl, rfl, ?_⟩
    refine ee_int ?_
    refine ⟨_, _, rfl, rfl, by decide, ?_⟩
    refine ⟨_, _, rfl, rfl, ?_⟩
    refine ea_nil ?_
    refine ⟨Nat.le_of_ble_eq_true rfl, ?_⟩
    refine ee_pcall c (i := 0) f__law_image (by decide) rfl ?_
    refine ea_cons ?_
    refine ee_var c (i := 1) rfl rfl rfl ?_
    refine ea_cons ?_
    refine ee_from1 ?_
    refine ee_var c (i := 0) rfl rfl rfl ?_
    refine ⟨_, rfl, ?_⟩
    refine ea_nil ?_
    refine ⟨_, ⟨b, a.2, rfl, rfl⟩, rfl, ?_⟩
    rintro _ rfl
    refine ⟨_, _, rfl, rfl, Nat.le_of_ble_eq_true rfl, ?_⟩
    exact .pure ⟨by rw [lk_mul1 a.1 b.1 h1]; rfl, rfl⟩
  · refine isF ?_
    refine sl_nil ?_
    refine sl_cons (ss_set c (i := 3) rfl rfl ?_)
    refine ee_mod ?_
    refine ee_add ?_
    refine ee_fdiv ?_
    refine ee_ixT ?_
    refine ee_var c (i := 0) rfl rfl rfl ?_
    refine ee_int ?_
    refine ⟨_, _, _, rfl, rfl, rfl, ?_⟩
    refine ee_int ?_
    refine ⟨_, _, rfl, rfl, ⟨by decide, by decide⟩, ?_⟩
    refine ee_fdiv ?_
    refine ee_ixT ?_
    refine ee_var c (i := 1) rfl rfl rfl ?_
    refine ee_int ?_
    refine ⟨_, _, _, rfl, rfl, rfl, ?_⟩
    refine ee_int ?_
    refine ⟨_, _, rfl, rfl, ⟨by decide, by decide⟩, ?_⟩
    refine ⟨_, _, rfl, rfl, ?_⟩
    refine ee_int ?_
    refine ⟨_, _, rfl, rfl, by decide, ?_⟩
    refine ⟨_, (.there (.there (.there .here))), ?_⟩
    refine sl_cons (ss_ret ?_)
    refine ee_catT ?_
    refine ee_tup ?_
    refine ea_cons ?_
    refine ee_add ?_
    refine ee_mulO ?_
    refine ee_int ?_
    refine ee_var c (i := 3) rfl rfl rfl ?_
    refine ⟨_, _, rfl, rfl, mulS1 (by decide), ?_⟩
    refine ee_mod ?_
    refine ee_add ?_
    refine ee_var c (i := 2) rfl rfl rfl ?_
    refine ee_ixT ?_
    refine ee_var c (i := 1) rfl rfl rfl ?_
    refine ee_int ?_
    refine ⟨_, _, _, rfl, rfl, rfl, ?_⟩
    refine ⟨_, _, rfl, rfl, ?_⟩
    refine ee_int ?_
    refine ⟨_, _, rfl, rfl, by decide, ?_⟩
    refine ⟨_, _, rfl, rfl, ?_⟩
    refine ea_nil ?_
    refine ⟨Nat.le_of_ble_eq_true rfl, ?_⟩
    refine ee_pcall c (i := 0) f__law_image (by decide) rfl ?_
    refine ea_cons ?_
    refine ee_var c (i := 1) rfl rfl rfl ?_
    refine ea_cons ?_
    refine ee_from1 ?_
    refine ee_var c (i := 0) rfl rfl rfl ?_
    refine ⟨_, rfl, ?_⟩
    refine ea_nil ?_
    refine ⟨_, ⟨b, a.2, rfl, rfl⟩, rfl, ?_⟩
    rintro _ rfl
    refine ⟨_, _, rfl, rfl, Nat.le_of_ble_eq_true rfl, ?_⟩
    exact .pure ⟨by rw [lk_mul2 a.1 b.1 h1]; rfl, rfl⟩
def W__law_inverse : Spec := Pu fun ds p => ∃ (a : Sy), ds = [dS a] ∧ p = fun d => d = dS (inv a)
theorem ok__law_inverse {f : Addr} {fd : FuncData} (Fu : FunT K "_law_inverse" 86 [] f fd) (mb : MB mg) (mc : MC K mg) (f__law_linear : Fn P w K mg base "_law_linear" 1 2 [] W__law_linear) : FnOk P w K mg base CX0 2 f fd ["_law_symmetry_here"] (spW K 1 W__law_inverse) := by
  refine fnok_mk (N := ["_law_symmetry_here", "_law_kind", "_law_x", "_law_y"]) (Gs := ["_law_linear"]) (Vi := [0, 1, 2, 3]) Fu ⟨rfl, rfl, rfl, by decide +kernel, rfl, by decide +kernel, by decide +kernel⟩ (by decide +kernel) rfl ?_
  rintro X F want ds R c hsc ⟨rfl, p, ⟨a, rfl, rfl⟩, rfl⟩ hl hF
  show SL X F _ [some _, none, none, none] _ _ _
  refine sl_cons (ss_set c (i := 1) rfl rfl ?_)
  refine ee_mono (Q' := fun d st1 => d = dK (kinv a.1) ∧ st1 = []) (ee_ifx ?_) ?_
  · refine et_gt ?_
    refine ee_ixT ?_
    refine ee_var c (i := 0) rfl rfl rfl ?_
    refine ee_int ?_
    refine ⟨_, _, _, rfl, rfl, rfl, ?_⟩
    refine ee_int ?_
    refine ⟨_, _, rfl, rfl, ?_⟩
    refine ⟨fun h1 => ?_, fun h1 => ?_⟩
    · refine isT ?_
      refine ee_ixT ?_
      refine ee_var c (i := 0) rfl rfl rfl ?_
      refine ee_int ?_
      refine ⟨_, _, _, rfl, rfl, rfl, ?_⟩
      exact ⟨congrArg dK (lk_inv1 a.1 h1), rfl⟩
    · refine isF ?_
      refine ee_mod ?_
      refine ee_sub ?_
      refine ee_int ?_
      refine ee_ixT ?_
      refine ee_var c (i := 0) rfl rfl rfl ?_
      refine ee_int ?_
      refine ⟨_, _, _, rfl, rfl, rfl, ?_⟩
      refine ⟨_, _, rfl, rfl, ?_⟩
      refine ee_int ?_
      refine ⟨_, _, rfl, rfl, by decide, ?_⟩
      exact ⟨by rw [lk_inv2 a.1 h1]; rfl, rfl⟩
  · rintro _ _ ⟨rfl, rfl⟩
    refine ⟨_, (.there .here), ?_⟩
    refine sl_cons (ss_asg (vs := [2, 3]) ?_ )
    refine ee_pcall c (i := 0) f__law_linear (by decide) rfl ?_
    refine ea_cons ?_
    refine ee_var c (i := 1) rfl rfl rfl ?_
    refine ea_cons ?_
    refine ee_from1 ?_
    refine ee_var c (i := 0) rfl rfl rfl ?_
    refine ⟨_, rfl, ?_⟩
    refine ea_nil ?_
    refine ⟨_, ⟨kinv a.1, a.2, rfl, rfl⟩, rfl, ?_⟩
    rintro _ rfl
    refine eg_tup c (n := 2) ?_ rfl
    refine egs_cons ?_
    refine eg_name c (i := 2) rfl rfl (by decide) (.there (.there .here)) ?_
    refine egs_cons ?_
    refine eg_name c (i := 3) rfl rfl (by decide) (.there (.there (.there .here))) ?_
    refine egs_nil ?_
    refine sl_cons (ss_ret ?_)
    refine ee_tup ?_
    refine ea_cons ?_
    refine ee_var c (i := 1) rfl rfl rfl ?_
    refine ea_cons ?_
    refine ee_sub ?_
    refine ee_int ?_
    refine ee_var c (i := 2) rfl rfl rfl ?_
    refine ⟨_, _, rfl, rfl, ?_⟩
    refine ea_cons ?_
    refine ee_sub ?_
    refine ee_int ?_
    refine ee_var c (i := 3) rfl rfl rfl ?_
    refine ⟨_, _, rfl, rfl, ?_⟩
    refine ea_nil ?_
    refine ⟨Nat.le_of_ble_eq_true rfl, ?_⟩
    exact .pure ⟨by rw [Int.zero_sub, Int.zero_sub]; rfl, rfl⟩
def W__law_reduce : Spec := Pu fun ds p => ∃ (b : List V2) (v : V2), ds = [dVs b, dV v] ∧ Nf b ∧ BL 8000 b ∧ BV 100000 v ∧ p = fun d => d = dV (red b v)
theorem ok__law_reduce {f : Addr} {fd : FuncData} (Fu : FunT K "_law_reduce" 76 [] f fd) (mb : MB mg) (mc : MC K mg) : FnOk P w K mg base CX0 1 f fd ["_law_basis_here", "_law_vector"] (spW K 2 W__law_reduce) := by
  refine fnok_mk (N := ["_law_basis_here", "_law_vector", "_law_x", "_law_y", "_law_a", "_law_b", "_law_times"]) (Gs := []) (Vi := [0, 1, 2, 3, 4, 5, 6]) Fu ⟨rfl, rfl, rfl, by decide +kernel, rfl, by decide +kernel, by decide +kernel⟩ (by decide +kernel) rfl ?_
  rintro X F want ds R c hsc ⟨rfl, p, ⟨b, v, rfl, nf, hb, hv, rfl⟩, rfl⟩ hl hF
  show SL X F _ [some _, some _, none, none, none, none, none] _ _ _
  refine sl_cons (ss_asg (vs := [2, 3]) ?_ )
  refine ee_var c (i := 1) rfl rfl rfl ?_
  refine eg_tup c (n := 2) ?_ rfl
  refine egs_cons ?_
  refine eg_name c (i := 2) rfl rfl (by decide) (.there (.there .here)) ?_
  refine egs_cons ?_
  refine eg_name c (i := 3) rfl rfl (by decide) (.there (.there (.there .here))) ?_
  refine egs_nil ?_
  refine sl_cons (ss_for c (vs := [4, 5]) ?_)
  refine ei_tup ?_
  refine ee_var c (i := 0) rfl rfl rfl ?_
  refine ⟨_, rfl, ?_⟩
  refine ⟨fun i en st => ∃ (v1 : V2) (o1 o2 o3 : Option D), en = [some (dVs b), some (dV v), some (.int v1.1), some (.int v1.2), o1, o2, o3] ∧ st = [] ∧ red (b.drop i) v1 = red b v ∧ BV (100000 + i * 8002) v1, ⟨v, none, none, none, rfl, rfl, rfl, hv.mono (by omega)⟩, fun _ _ _ _ _ => trivial, ?_, ?_⟩
  · rintro i d en2 st2 hd ⟨v1, o1, o2, o3, rfl, rfl, hr, hv1⟩
    obtain ⟨s, hs, rfl⟩ := getMap hd
    have hsm := List.mem_of_getElem? hs
    have hlt : i < b.length := getLt hs
    have hle := nf.len
    have hbs := hb s hsm
    have hds : b.drop i = s :: b.drop (i + 1) := by
      rw [List.drop_eq_getElem_cons hlt]; congr 1; exact (List.getElem?_eq_some_iff.mp hs).2
    rw [hds] at hr
    have hld := nf.lead hsm
    refine eg_tup c (n := 2) ?_ rfl
    refine egs_cons ?_
    refine eg_name c (i := 4) rfl rfl (by decide) (.there (.there (.there (.there .here)))) ?_
    refine egs_cons ?_
    refine eg_name c (i := 5) rfl rfl (by decide) (.there (.there (.there (.there (.there .here))))) ?_
    refine egs_nil ?_
    refine sl_cons (ss_set c (i := 6) rfl rfl ?_)
    refine ee_mono (Q' := fun d st1 => d = .int (stepc s v1) ∧ st1 = []) (ee_ifx ?_) ?_
    · refine et_neI ?_
      refine ee_var c (i := 4) rfl rfl rfl ?_
      refine ee_int ?_
      refine ⟨_, _, rfl, rfl, ?_⟩
      refine ⟨fun h1 => ?_, fun h1 => ?_⟩
      · refine isT ?_
        refine ee_fdiv ?_
        refine ee_var c (i := 2) rfl rfl rfl ?_
        refine ee_var c (i := 4) rfl rfl rfl ?_
        refine ⟨_, _, rfl, rfl, hbs.1.divOk h1 (by omega), ?_⟩
        exact ⟨by rw [stepc, if_neg h1], rfl⟩
      · refine isF ?_
        refine ee_fdiv ?_
        refine ee_var c (i := 3) rfl rfl rfl ?_
        refine ee_var c (i := 5) rfl rfl rfl ?_
        have hz0 : s.1 = 0 := by omega
        rw [if_pos hz0] at hld
        refine ⟨_, _, rfl, rfl, hbs.2.divOk hld (by omega), ?_⟩
        exact ⟨by rw [stepc, if_pos (by omega)], rfl⟩
    · rintro _ _ ⟨rfl, rfl⟩
      refine ⟨_, (.there (.there (.there (.there (.there (.there .here)))))), ?_⟩
      refine sl_cons (ss_par2 c (i := 2) (j := 3) rfl rfl rfl rfl (by rw [hsc]; rfl) (by rw [hsc]; rfl) ?_)
      refine ea_cons ?_
      refine ee_sub ?_
      refine ee_var c (i := 2) rfl rfl rfl ?_
      refine ee_mulO ?_
      refine ee_var c (i := 6) rfl rfl rfl ?_
      refine ee_var c (i := 4) rfl rfl rfl ?_
      have ht : Bt (100000 + i * 8002) (stepc s v1) := Bt.stepc hv1
      refine ⟨_, _, rfl, rfl, ht.mulOk hbs.1 (by omega), ?_⟩
      refine ⟨_, _, rfl, rfl, ?_⟩
      refine ea_cons ?_
      refine ee_sub ?_
      refine ee_var c (i := 3) rfl rfl rfl ?_
      refine ee_mulO ?_
      refine ee_var c (i := 6) rfl rfl rfl ?_
      refine ee_var c (i := 5) rfl rfl rfl ?_
      refine ⟨_, _, rfl, rfl, ht.mulOk hbs.2 (by omega), ?_⟩
      refine ⟨_, _, rfl, rfl, ?_⟩
      refine ea_nil ?_
      refine ⟨_, _, _, _, rfl, (.there (.there .here)), (.there (.there (.there .here))), ?_⟩
      refine sl_nil ?_
      have ev : (v1.1 - stepc s v1 * s.1, v1.2 - stepc s v1 * s.2) = vadd v1 (smul (0 - stepc s v1) s) := by refine v2_ext ?_ ?_ <;> simp only [vadd, smul] <;> grind
      have hr2 : red (b.drop (i + 1)) (v1.1 - stepc s v1 * s.1, v1.2 - stepc s v1 * s.2) = red b v := by rw [ev]; exact hr
      exact ⟨(v1.1 - stepc s v1 * s.1, v1.2 - stepc s v1 * s.2), _, _, _, rfl, rfl, hr2, hv1.1.sub (ht.mul hbs.1) (by omega) (by omega), hv1.2.sub (ht.mul hbs.2) (by omega) (by omega)⟩
  · rintro en2 st2 ⟨v1, o1, o2, o3, rfl, rfl, hr, hv1⟩
    rw [List.length_map] at hr
    rw [List.drop_length] at hr
    have hr : v1 = red b v := hr
    refine sl_cons (ss_ret ?_)
    refine ee_tup ?_
    refine ea_cons ?_
    refine ee_var c (i := 2) rfl rfl rfl ?_
    refine ea_cons ?_
    refine ee_var c (i := 3) rfl rfl rfl ?_
    refine ea_nil ?_
    refine ⟨Nat.le_of_ble_eq_true rfl, ?_⟩
    exact .pure ⟨by rw [← hr]; rfl, rfl⟩
end G
end
section
set_option Elab.async false
set_option linter.all false
set_option maxRecDepth 100000
set_option maxHeartbeats 4000000
/-! L2w: bounds of drawn groups. -/
namespace G
open PySem L2
theorem Ab.lin {S : Nat} {v : V2} (k : Fin 8) (h : Ab S v) : Ab S (G.lin k v) := by
  obtain ⟨h1, h2⟩ := h
  rcases lin_abs k v with ⟨a, b⟩ | ⟨a, b⟩
  · exact ⟨by omega, by omega⟩
  · exact ⟨by omega, by omega⟩
theorem Ab.inv {S : Nat} {s : Sy} (h : Ab S s.2) : Ab S (G.inv s).2 := by
  have := Ab.lin (kinv s.1) h
  obtain ⟨h1, h2⟩ := this
  refine ⟨?_, ?_⟩
  · show (-(G.lin (kinv s.1) s.2).1).natAbs ≤ S; omega
  · show (-(G.lin (kinv s.1) s.2).2).natAbs ≤ S; omega
theorem Ab.mul {S T : Nat} {a b : Sy} (h : Ab S a.2) (g : Ab T b.2) : Ab (T + S) (G.mul a b).2 := Ab.img g h
theorem ab_bv {S n : Nat} {v : V2} (h : Ab S v) (hn : S < 2 ^ n) : BV n v := ⟨by unfold Bt; have := h.1; omega, by unfold Bt; have := h.2; omega⟩
/-- a drawn list of generators -/
def GR (q : Addr) (F L : Nat) : D → Sto → Prop := fun d st => ∃ (gs : List Sy) (a b z : Int), d = dG gs ∧ gs.length ≤ L ∧ (∀ g ∈ gs, Ab F g.2) ∧ st = [⟨q, true, sO a b z⟩] ∧ SRC a b
theorem nat_of {r : Int} (h : 0 ≤ r) : ∃ j : Nat, r = (j : Int) := ⟨r.toNat, by omega⟩
end G
end
section
set_option Elab.async false
set_option linter.all false
set_option maxRecDepth 100000
set_option maxHeartbeats 4000000
namespace G
open PySem L2
variable {P : Program} {w : World} {K : PySem.W.Frag} {mg : Str → Option Value} {base : Heap}
def W__law_choose : Spec := fun want ds R => ∃ (q : Addr) (a b z : Int) (xs : List D), ((want = [⟨q, true, sO a b z⟩] ∧ ds = [.ref q, .tup xs]) ∨ ∃ p, want = [⟨q, true, sO a b z⟩, ⟨p, false, .lst xs⟩] ∧ ds = [.ref q, .ref p]) ∧ xs ≠ [] ∧ xs.length ≤ 1000 ∧ SRC a b ∧ R = fun d st => d ∈ xs ∧ ∃ (a' b' z' : Int), st = [⟨q, true, sO a' b' z'⟩] ∧ SRC a' b'
theorem ok__law_choose {f : Addr} {fd : FuncData} (Fu : FunT K "_law_choose" 82 [] f fd) (mb : MB mg) (mc : MC K mg) (f__law_draw : Fn P w K mg base "_law_draw" 1 2 [] W__law_draw) : FnOk P w K mg base CX0 2 f fd ["_law_source_here", "_law_values"] (spW K 2 W__law_choose) := by
  refine fnok_mk (N := ["_law_source_here", "_law_values"]) (Gs := ["_law_draw", "len"]) (Vi := [0, 1]) Fu ⟨rfl, rfl, rfl, by decide +kernel, rfl, by decide +kernel, by decide +kernel⟩ (by decide +kernel) rfl ?_
  rintro X F want ds R c hsc ⟨q, a, b, z, xs, (⟨rfl, rfl⟩ | ⟨p, rfl, rfl⟩), hne, hlen, hs, rfl⟩ hl hF
  · show SL X F _ [some _, some _] _ _ _
    refine sl_cons (ss_ret ?_)
    refine ee_ixT ?_
    refine ee_var c (i := 1) rfl rfl rfl ?_
    refine ee_call c (i := 0) f__law_draw (by decide) rfl ?_
    refine ea_cons ?_
    refine ee_var c (i := 0) rfl rfl rfl ?_
    refine ea_cons ?_
    refine ee_lenT c (i := 1) rfl mb.len ?_
    refine ee_var c (i := 1) rfl rfl rfl ?_
    refine ⟨_, rfl, ?_⟩
    refine ea_nil ?_
    have hpos : 0 < xs.length := List.length_pos_iff.mpr hne
    refine ⟨_, _, _, .wr (by repeat (first | exact OutA.here | apply OutA.there)) (.nil _), ⟨q, _, _, _, _, rfl, rfl, by omega, by omega, hs, rfl⟩, rfl, ?_⟩
    rintro _ _ ⟨r1, a1, b1, z1, rfl, hr1, hq1, rfl, hs1⟩
    obtain ⟨j, rfl⟩ := nat_of hr1
    have hj : j < xs.length := by omega
    refine ⟨_, _, xs[j], rfl, rfl, atI_nat (by simp [hj]), ?_⟩
    exact ⟨_, .refl _, fun e he => by simp at he; rw [he], List.getElem_mem hj, _, _, _, rfl, hs1⟩
  · show SL X F _ [some _, some _] _ _ _
    refine sl_cons (ss_ret ?_)
    refine ee_ixL ?_
    refine ee_var c (i := 1) rfl rfl rfl ?_
    refine ee_call c (i := 0) f__law_draw (by decide) rfl ?_
    refine ea_cons ?_
    refine ee_var c (i := 0) rfl rfl rfl ?_
    refine ea_cons ?_
    refine ee_lenL c (i := 1) rfl mb.len ?_
    refine ee_var c (i := 1) rfl rfl rfl ?_
    refine ⟨_, _, rfl, .there .here, ?_⟩
    refine ea_nil ?_
    have hpos : 0 < xs.length := List.length_pos_iff.mpr hne
    refine ⟨_, _, _, .wr (by repeat (first | exact OutA.here | apply OutA.there)) (.nil _), ⟨q, _, _, _, _, rfl, rfl, by omega, by omega, hs, rfl⟩, rfl, ?_⟩
    rintro _ _ ⟨r1, a1, b1, z1, rfl, hr1, hq1, rfl, hs1⟩
    obtain ⟨j, rfl⟩ := nat_of hr1
    have hj : j < xs.length := by omega
    refine ⟨_, _, _, xs[j], rfl, .there .here, rfl, atI_nat (by simp [hj]), ?_⟩
    exact ⟨_, .cons_cons _ (List.nil_sublist _), fun e he => by simp at he; rw [he], List.getElem_mem hj, _, _, _, rfl, hs1⟩
def W__law_square : Spec := fun want ds R => ∃ (q : Addr) (a b z : Int) (f : Nat), want = [⟨q, true, sO a b z⟩] ∧ ds = [.ref q, .int (f : Nat)] ∧ f ≤ 1000 ∧ SRC a b ∧ R = fun d st => ∃ (v : V2) (a' b' z' : Int), d = dV v ∧ Ab f v ∧ st = [⟨q, true, sO a' b' z'⟩] ∧ SRC a' b'
theorem ok__law_square {f : Addr} {fd : FuncData} (Fu : FunT K "_law_square" 87 [] f fd) (mb : MB mg) (mc : MC K mg) (f__law_draw : Fn P w K mg base "_law_draw" 1 2 [] W__law_draw) : FnOk P w K mg base CX0 2 f fd ["_law_source_here", "_law_far"] (spW K 2 W__law_square) := by
  refine fnok_mk (N := ["_law_source_here", "_law_far"]) (Gs := ["_law_draw"]) (Vi := [0, 1]) Fu ⟨rfl, rfl, rfl, by decide +kernel, rfl, by decide +kernel, by decide +kernel⟩ (by decide +kernel) rfl ?_
  rintro X F want ds R c hsc ⟨q, a, b, z, f, rfl, rfl, hf, hs, rfl⟩ hl hF
  show SL X F _ [some _, some _] _ _ _
  refine sl_cons (ss_ret ?_)
  refine ee_tup ?_
  refine ea_cons ?_
  refine ee_sub ?_
  refine ee_call c (i := 0) f__law_draw (by decide) rfl ?_
  refine ea_cons ?_
  refine ee_var c (i := 0) rfl rfl rfl ?_
  refine ea_cons ?_
  refine ee_add ?_
  refine ee_mulO ?_
  refine ee_int ?_
  refine ee_var c (i := 1) rfl rfl rfl ?_
  refine ⟨_, _, rfl, rfl, mulS1 (by decide), ?_⟩
  refine ee_int ?_
  refine ⟨_, _, rfl, rfl, ?_⟩
  refine ea_nil ?_
  refine ⟨_, _, _, .wr (by repeat (first | exact OutA.here | apply OutA.there)) (.nil _), ⟨q, _, _, _, _, rfl, rfl, by omega, by omega, hs, rfl⟩, rfl, ?_⟩
  rintro _ _ ⟨r1, a1, b1, z1, rfl, hr1, hq1, rfl, hs1⟩
  refine ee_var c (i := 1) rfl rfl rfl ?_
  refine ⟨_, _, rfl, rfl, ?_⟩
  refine ea_cons ?_
  refine ee_sub ?_
  refine ee_call c (i := 0) f__law_draw (by decide) rfl ?_
  refine ea_cons ?_
  refine ee_var c (i := 0) rfl rfl rfl ?_
  refine ea_cons ?_
  refine ee_add ?_
  refine ee_mulO ?_
  refine ee_int ?_
  refine ee_var c (i := 1) rfl rfl rfl ?_
  refine ⟨_, _, rfl, rfl, mulS1 (by decide), ?_⟩
  refine ee_int ?_
  refine ⟨_, _, rfl, rfl, ?_⟩
  refine ea_nil ?_
  refine ⟨_, _, _, .wr (by repeat (first | exact OutA.here | apply OutA.there)) (.nil _), ⟨q, _, _, _, _, rfl, rfl, by omega, by omega, hs1, rfl⟩, rfl, ?_⟩
  rintro _ _ ⟨r2, a2, b2, z2, rfl, hr2, hq2, rfl, hs2⟩
  refine ee_var c (i := 1) rfl rfl rfl ?_
  refine ⟨_, _, rfl, rfl, ?_⟩
  refine ea_nil ?_
  refine ⟨Nat.le_of_ble_eq_true rfl, ?_⟩
  exact ⟨_, .refl _, fun e he => by simp at he; rw [he], (r1 - f, r2 - f), _, _, _, rfl, ⟨by show (r1 - f).natAbs ≤ f; omega, by show (r2 - f).natAbs ≤ f; omega⟩, rfl, hs2⟩
def W__law_symmetry : Spec := fun want ds R => ∃ (q : Addr) (a b z : Int) (f : Nat), want = [⟨q, true, sO a b z⟩] ∧ ds = [.ref q, .int (f : Nat)] ∧ f ≤ 1000 ∧ SRC a b ∧ R = fun d st => ∃ (s : Sy) (a' b' z' : Int), d = dS s ∧ Ab f s.2 ∧ st = [⟨q, true, sO a' b' z'⟩] ∧ SRC a' b'
theorem ok__law_symmetry {f : Addr} {fd : FuncData} (Fu : FunT K "_law_symmetry" 88 [] f fd) (mb : MB mg) (mc : MC K mg) (f__law_square : Fn P w K mg base "_law_square" 2 2 [] W__law_square) (f__law_draw : Fn P w K mg base "_law_draw" 1 2 [] W__law_draw) : FnOk P w K mg base CX0 3 f fd ["_law_source_here", "_law_far"] (spW K 2 W__law_symmetry) := by
  refine fnok_mk (N := ["_law_source_here", "_law_far"]) (Gs := ["_law_draw", "_law_square"]) (Vi := [0, 1]) Fu ⟨rfl, rfl, rfl, by decide +kernel, rfl, by decide +kernel, by decide +kernel⟩ (by decide +kernel) rfl ?_
  rintro X F want ds R c hsc ⟨q, a, b, z, f, rfl, rfl, hf, hs, rfl⟩ hl hF
  show SL X F _ [some _, some _] _ _ _
  refine sl_cons (ss_ret ?_)
  refine ee_catT ?_
  refine ee_tup ?_
  refine ea_cons ?_
  refine ee_call c (i := 0) f__law_draw (by decide) rfl ?_
  refine ea_cons ?_
  refine ee_var c (i := 0) rfl rfl rfl ?_
  refine ea_cons ?_
  refine ee_int ?_
  refine ea_nil ?_
  refine ⟨_, _, _, .wr (by repeat (first | exact OutA.here | apply OutA.there)) (.nil _), ⟨q, _, _, _, _, rfl, rfl, by decide, by decide, hs, rfl⟩, rfl, ?_⟩
  rintro _ _ ⟨r1, a1, b1, z1, rfl, hr1, hq1, rfl, hs1⟩
  obtain ⟨k, rfl⟩ := fin8_of hr1 hq1
  refine ea_nil ?_
  refine ⟨Nat.le_of_ble_eq_true rfl, ?_⟩
  refine ee_call c (i := 1) f__law_square (by decide) rfl ?_
  refine ea_cons ?_
  refine ee_var c (i := 0) rfl rfl rfl ?_
  refine ea_cons ?_
  refine ee_var c (i := 1) rfl rfl rfl ?_
  refine ea_nil ?_
  refine ⟨_, _, _, .wr (by repeat (first | exact OutA.here | apply OutA.there)) (.nil _), ⟨q, _, _, _, _, rfl, rfl, by omega, hs1, rfl⟩, rfl, ?_⟩
  rintro _ _ ⟨v2, a2, b2, z2, rfl, hv2, rfl, hs2⟩
  refine ⟨_, _, rfl, rfl, Nat.le_of_ble_eq_true rfl, ?_⟩
  exact ⟨_, .refl _, fun e he => by simp at he; rw [he], (k, v2), _, _, _, rfl, hv2, rfl, hs2⟩
def W__law_carried : Spec := Pu fun ds p => ∃ (s o : Sy), ds = [dS s, dS o] ∧ p = fun d => d = dS (mul (mul (inv s) o) s)
theorem ok__law_carried {f : Addr} {fd : FuncData} (Fu : FunT K "_law_carried" 93 [] f fd) (mb : MB mg) (mc : MC K mg) (f__law_product : Fn P w K mg base "_law_product" 3 2 [] W__law_product) (f__law_inverse : Fn P w K mg base "_law_inverse" 2 1 [] W__law_inverse) : FnOk P w K mg base CX0 4 f fd ["_law_symmetry_here", "_law_other"] (spW K 2 W__law_carried) := by
  refine fnok_mk (N := ["_law_symmetry_here", "_law_other"]) (Gs := ["_law_product", "_law_inverse"]) (Vi := [0, 1]) Fu ⟨rfl, rfl, rfl, by decide +kernel, rfl, by decide +kernel, by decide +kernel⟩ (by decide +kernel) rfl ?_
  rintro X F want ds R c hsc ⟨rfl, p, ⟨s, o, rfl, rfl⟩, rfl⟩ hl hF
  show SL X F _ [some _, some _] _ _ _
  refine sl_cons (ss_ret ?_)
  refine ee_pcall c (i := 0) f__law_product (by decide) rfl ?_
  refine ea_cons ?_
  refine ee_pcall c (i := 0) f__law_product (by decide) rfl ?_
  refine ea_cons ?_
  refine ee_pcall c (i := 1) f__law_inverse (by decide) rfl ?_
  refine ea_cons ?_
  refine ee_var c (i := 0) rfl rfl rfl ?_
  refine ea_nil ?_
  refine ⟨_, ⟨s, rfl, rfl⟩, rfl, ?_⟩
  rintro _ rfl
  refine ea_cons ?_
  refine ee_var c (i := 1) rfl rfl rfl ?_
  refine ea_nil ?_
  refine ⟨_, ⟨inv s, o, rfl, rfl⟩, rfl, ?_⟩
  rintro _ rfl
  refine ea_cons ?_
  refine ee_var c (i := 0) rfl rfl rfl ?_
  refine ea_nil ?_
  refine ⟨_, ⟨mul (inv s) o, s, rfl, rfl⟩, rfl, ?_⟩
  rintro _ rfl
  exact .pure ⟨rfl, rfl⟩
def W__law_tiling : Spec := fun want ds R => ∃ (q : Addr) (a b z : Int) (f : Nat), want = [⟨q, true, sO a b z⟩] ∧ ds = [.ref q, .int (f : Nat)] ∧ f ≤ 1000 ∧ SRC a b ∧ R = GR q f 5
theorem ok__law_tiling {f : Addr} {fd : FuncData} (Fu : FunT K "_law_tiling" 91 [] f fd) (mb : MB mg) (mc : MC K mg) (f__law_square : Fn P w K mg base "_law_square" 2 2 [] W__law_square) (f__law_symmetry : Fn P w K mg base "_law_symmetry" 3 2 [] W__law_symmetry) (f__law_draw : Fn P w K mg base "_law_draw" 1 2 [] W__law_draw) : FnOk P w K mg base CX0 4 f fd ["_law_source_here", "_law_far"] (spW K 2 W__law_tiling) := by
  refine fnok_mk (N := ["_law_source_here", "_law_far", "_law_found", "_law_lap"]) (Gs := ["range", "_law_draw", "tuple"]) (Vi := [0, 1, 2]) Fu ⟨rfl, rfl, rfl, by decide +kernel, rfl, by decide +kernel, by decide +kernel⟩ (by decide +kernel) rfl ?_
  rintro X F want ds R c hsc ⟨q, a, b, z, f, rfl, rfl, hf, hs, rfl⟩ hl hF
  show SL X F _ [some _, some _, none, none] _ _ _
  refine sl_cons (ss_setLc c [("_law_lap", 3)] (i := 2) (G' := ["_law_square"]) (V' := [0, 1, 3]) rfl rfl (by rw [hsc]; rfl) rfl (by decide +kernel) (by rw [hsc]; decide +kernel) (by rw [hsc]; decide +kernel) ?_)
  refine ei_rng c (j := 0) rfl mb.range ?_
  refine ee_int ?_
  refine ⟨_, rfl, by decide, by decide, ?_⟩
  intro p1
  refine ⟨fun i st => ∃ (gs : List Sy) (a b z : Int), st = [⟨p1, true, .lst (gs.map dS)⟩, ⟨q, true, sO a b z⟩] ∧ gs.length = i ∧ (∀ g ∈ gs, Ab f g.2) ∧ SRC a b, ⟨[], a, b, z, rfl, rfl, fun g hg => (nomatch hg), hs⟩, fun _ _ _ _ => trivial, ?_, ?_⟩
  · rintro i d st2 hd ⟨gs, a, b, z, rfl, hgl, hgb, hs⟩ Xp1 hX
    obtain ⟨hi, rfl⟩ := rangeGet hd
    have hi2 : i < 2 := hi
    refine eg_name hX.2 (i := 3) rfl rfl (by decide) (.there (.there (.there .here))) ?_
    intro Xp1 hX
    refine ee_pmo ?_
    refine ee_catT ?_
    refine ee_tup ?_
    refine ea_cons ?_
    refine ee_int ?_
    refine ea_nil ?_
    refine ⟨Nat.le_of_ble_eq_true rfl, ?_⟩
    refine ee_call hX.2 (i := 0) f__law_square (by decide) rfl ?_
    refine ea_cons ?_
    refine ee_var hX.2 (i := 0) rfl rfl rfl ?_
    refine ea_cons ?_
    refine ee_var hX.2 (i := 1) rfl rfl rfl ?_
    refine ea_nil ?_
    refine ⟨_, _, _, .wr (by repeat (first | exact OutA.here | apply OutA.there)) (.nil _), ⟨q, _, _, _, _, rfl, rfl, by omega, hs, rfl⟩, rfl, ?_⟩
    rintro _ _ ⟨v1, a1, b1, z1, rfl, hv1, rfl, hs1⟩
    refine ⟨_, _, rfl, rfl, Nat.le_of_ble_eq_true rfl, ?_⟩
    refine ⟨_, (.swap _ _ _), ?_⟩
    refine ⟨_, _, .here, by rw [List.length_map]; have := sizeLine_big; omega, ?_⟩
    exact ⟨gs ++ [(0, v1)], _, _, _, by rw [List.map_append]; rfl, by simp [hgl], fun g hg => by rcases List.mem_append.mp hg with hg | hg; exact hgb g hg; simp at hg; subst hg; exact hv1, hs1⟩
  · rintro st2 ⟨gs, a, b, z, rfl, hgl, hgb, hs⟩
    have hgl : gs.length = 2 := hgl
    refine ⟨_, (.there (.there .here)), ?_⟩
    refine sl_cons (ss_set c (i := 2) rfl rfl ?_)
    refine ee_catL ?_
    refine ee_var c (i := 2) rfl rfl rfl ?_
    refine ee_lc c [("_law_lap", 3)] (G' := ["_law_symmetry"]) (V' := [0, 1, 3]) (by rw [hsc]; decide +kernel) (by rw [hsc]; decide +kernel) ?_
    refine ei_rng c (j := 0) rfl mb.range ?_
    refine ee_call c (i := 1) f__law_draw (by decide) rfl ?_
    refine ea_cons ?_
    refine ee_var c (i := 0) rfl rfl rfl ?_
    refine ea_cons ?_
    refine ee_int ?_
    refine ea_nil ?_
    refine ⟨_, _, _, .wr (by repeat (first | exact OutA.here | apply OutA.there)) (.nil _), ⟨q, _, _, _, _, rfl, rfl, by decide, by decide, hs, rfl⟩, rfl, ?_⟩
    rintro _ _ ⟨r3, a3, b3, z3, rfl, hr3, hq3, rfl, hs3⟩
    refine ⟨_, rfl, by omega, by omega, ?_⟩
    intro p2
    refine ⟨fun i st => ∃ (ht : List Sy) (a b z : Int), st = [⟨p2, true, .lst (ht.map dS)⟩, ⟨q, true, sO a b z⟩, ⟨p1, true, .lst (gs.map dS)⟩] ∧ ht.length = i ∧ (∀ g ∈ ht, Ab f g.2) ∧ SRC a b, ⟨[], _, _, _, rfl, rfl, fun g hg => (nomatch hg), hs3⟩, fun _ _ _ _ => trivial, ?_, ?_⟩
    · rintro i d st2 hd ⟨ht, a, b, z, rfl, htl, htb, hs⟩ Xp2 hX
      obtain ⟨hi, rfl⟩ := rangeGet hd
      have hi2 : i < 3 := by omega
      refine eg_name hX.2 (i := 3) rfl rfl (by decide) (.there (.there (.there .here))) ?_
      intro Xp2 hX
      refine ee_pmo ?_
      refine ee_call hX.2 (i := 0) f__law_symmetry (by decide) rfl ?_
      refine ea_cons ?_
      refine ee_var hX.2 (i := 0) rfl rfl rfl ?_
      refine ea_cons ?_
      refine ee_var hX.2 (i := 1) rfl rfl rfl ?_
      refine ea_nil ?_
      refine ⟨_, _, _, .wr (by repeat (first | exact OutA.here | apply OutA.there)) (.nil _), ⟨q, _, _, _, _, rfl, rfl, by omega, hs, rfl⟩, rfl, ?_⟩
      rintro _ _ ⟨s4, a4, b4, z4, rfl, hv4, rfl, hs4⟩
      refine ⟨_, (.swap _ _ _), ?_⟩
      refine ⟨_, _, .here, by rw [List.length_map]; have := sizeLine_big; omega, ?_⟩
      exact ⟨ht ++ [s4], _, _, _, by rw [List.map_append]; rfl, by simp [htl], fun g hg => by rcases List.mem_append.mp hg with hg | hg; exact htb g hg; simp at hg; subst hg; exact hv4, hs4⟩
    · rintro st2 ⟨ht, a, b, z, rfl, htl, htb, hs⟩
      rw [List.length_map, List.length_range] at htl
      refine ⟨_, _, _, _, _, _, rfl, rfl, (by repeat (first | exact Put.here | apply Put.there)), (by repeat (first | exact Put.here | apply Put.there)), by rw [List.length_map, List.length_map]; have := sizeLine_big; omega, fun pQ => ?_⟩
      rw [← List.map_append]
      refine ⟨_, (.there (.there .here)), ?_⟩
      refine sl_cons (ss_ret ?_)
      refine ee_tupleL c (i := 2) rfl mb.tuple ?_
      refine ee_ifx ?_
      refine et_eqI ?_
      refine ee_call c (i := 1) f__law_draw (by decide) rfl ?_
      refine ea_cons ?_
      refine ee_var c (i := 0) rfl rfl rfl ?_
      refine ea_cons ?_
      refine ee_int ?_
      refine ea_nil ?_
      refine ⟨_, _, _, .wr (by repeat (first | exact OutA.here | apply OutA.there)) (.nil _), ⟨q, _, _, _, _, rfl, rfl, by decide, by decide, hs, rfl⟩, rfl, ?_⟩
      rintro _ _ ⟨r5, a5, b5, z5, rfl, hr5, hq5, rfl, hs5⟩
      refine ee_int ?_
      refine ⟨_, _, rfl, rfl, ?_⟩
      refine ⟨fun h3 => ?_, fun h3 => ?_⟩
      · refine isT ?_
        refine ee_revL ?_
        refine ee_var c (i := 2) rfl rfl rfl ?_
        refine ⟨_, _, rfl, (by repeat (first | exact Has.here | apply Has.there)), fun p4 => ?_⟩
        rw [← List.map_reverse]
        refine ⟨_, _, rfl, (by repeat (first | exact Has.here | apply Has.there)), ?_⟩
        exact ⟨_, .cons _ (.cons_cons _ (List.nil_sublist _)), fun e he => by simp at he; rw [he], (gs ++ ht).reverse, _, _, _, rfl, by simp; omega, fun g hg => by rw [List.mem_reverse] at hg; rcases List.mem_append.mp hg with hg | hg; exact hgb g hg; exact htb g hg, rfl, hs5⟩
      · refine isF ?_
        refine ee_var c (i := 2) rfl rfl rfl ?_
        refine ⟨_, _, rfl, (by repeat (first | exact Has.here | apply Has.there)), ?_⟩
        exact ⟨_, .cons_cons _ (List.nil_sublist _), fun e he => by simp at he; rw [he], gs ++ ht, _, _, _, rfl, by simp; omega, fun g hg => by rcases List.mem_append.mp hg with hg | hg; exact hgb g hg; exact htb g hg, rfl, hs5⟩
end G
end
section
set_option Elab.async false
set_option linter.all false
set_option maxRecDepth 100000
set_option maxHeartbeats 4000000
namespace G
open PySem L2
variable {P : Program} {w : World} {K : PySem.W.Frag} {mg : Str → Option Value} {base : Heap}
def W__law_word : Spec := fun want ds R => ∃ (q : Addr) (a b z : Int) (gs : List Sy) (F m : Nat), want = [⟨q, true, sO a b z⟩] ∧ ds = [.ref q, dG gs, .int (m : Nat)] ∧ m ≤ 10 ∧ gs.length ≤ 6 ∧ (∀ g ∈ gs, Ab F g.2) ∧ SRC a b ∧ R = fun d st => ∃ (s : Sy) (a' b' z' : Int), d = dS s ∧ InG gs s ∧ Ab (10 * F) s.2 ∧ st = [⟨q, true, sO a' b' z'⟩] ∧ SRC a' b'
theorem ok__law_word {f : Addr} {fd : FuncData} (Fu : FunT K "_law_word" 90 [] f fd) (mb : MB mg) (mc : MC K mg) (f__law_choose : Fn P w K mg base "_law_choose" 2 2 [] W__law_choose) (f__law_product : Fn P w K mg base "_law_product" 3 2 [] W__law_product) (f__law_draw : Fn P w K mg base "_law_draw" 1 2 [] W__law_draw) (f__law_inverse : Fn P w K mg base "_law_inverse" 2 1 [] W__law_inverse) : FnOk P w K mg base CX0 4 f fd ["_law_source_here", "_law_generators_here", "_law_most"] (spW K 3 W__law_word) := by
  refine fnok_mk (N := ["_law_source_here", "_law_generators_here", "_law_most", "_law_found", "_law_lap", "_law_one"]) (Gs := ["range", "_law_draw", "int", "_law_choose", "_law_product", "_law_inverse"]) (Vi := [0, 1, 2, 3, 4, 5]) Fu ⟨rfl, rfl, rfl, by decide +kernel, rfl, by decide +kernel, by decide +kernel⟩ (by decide +kernel) rfl ?_
  rintro X F want ds R c hsc ⟨q, a, b, z, gs, F0, m, rfl, rfl, hm, hg6, hgF, hs, rfl⟩ hl hF
  show SL X F _ [some _, some _, some _, none, none, none] _ _ _
  refine sl_cons (ss_set c (i := 3) rfl rfl ?_)
  refine ee_tup ?_
  refine ea_cons ?_
  refine ee_int ?_
  refine ea_cons ?_
  refine ee_int ?_
  refine ea_cons ?_
  refine ee_int ?_
  refine ea_nil ?_
  refine ⟨Nat.le_of_ble_eq_true rfl, ?_⟩
  refine ⟨_, (.there (.there (.there .here))), ?_⟩
  refine sl_cons (ss_for c (vs := [4]) ?_)
  refine ei_rng c (j := 0) rfl mb.range ?_
  refine ee_mulO ?_
  refine ee_call c (i := 1) f__law_draw (by decide) rfl ?_
  refine ea_cons ?_
  refine ee_var c (i := 0) rfl rfl rfl ?_
  refine ea_cons ?_
  refine ee_add ?_
  refine ee_var c (i := 2) rfl rfl rfl ?_
  refine ee_int ?_
  refine ⟨_, _, rfl, rfl, ?_⟩
  refine ea_nil ?_
  refine ⟨_, _, _, .wr (by repeat (first | exact OutA.here | apply OutA.there)) (.nil _), ⟨q, _, _, _, _, rfl, rfl, by omega, by omega, hs, rfl⟩, rfl, ?_⟩
  rintro _ _ ⟨r1, a1, b1, z1, rfl, hr1, hq1, rfl, hs1⟩
  refine ee_intB c (i := 2) rfl mb.int ?_
  refine ee_neD c ?_
  refine ee_var c (i := 1) rfl rfl rfl ?_
  refine ee_tup ?_
  refine ea_nil ?_
  refine ⟨Nat.le_of_ble_eq_true rfl, ?_⟩
  refine ⟨pl_dG _, by simp [pl, pls], ?_⟩
  intro b1 hb1
  refine ⟨_, rfl, ?_⟩
  refine ⟨_, _, rfl, rfl, mulS2 (by cases b1 <;> decide), ?_⟩
  have hn1 : 0 ≤ r1 * (if b1 = true then 1 else 0) ∧ r1 * (if b1 = true then 1 else 0) ≤ r1 ∧ (b1 = false → r1 * (if b1 = true then 1 else 0) = 0) := by
    cases b1
    · simp; omega
    · simp; omega
  refine ⟨_, rfl, by omega, by omega, ?_⟩
  refine ⟨fun i en st => ∃ (s : Sy) (a b z : Int) (o5 o6 : Option D), en = [some (.ref q), some (dG gs), some (.int (m : Nat)), some (dS s), o5, o6] ∧ st = [⟨q, true, sO a b z⟩] ∧ InG gs s ∧ Ab (i * F0) s.2 ∧ SRC a b, ⟨one, _, _, _, none, none, rfl, rfl, .one, ⟨Nat.zero_le _, Nat.zero_le _⟩, hs1⟩, fun _ _ _ _ _ => trivial, ?_, ?_⟩
  · rintro i d en2 st2 hd ⟨s, a, b, z, o5, o6, rfl, rfl, hin, hab, hs⟩
    obtain ⟨hi, rfl⟩ := rangeGet hd
    have hgne : gs ≠ [] := by
      cases hB : b1 with
      | false => have := hn1.2.2 hB; omega
      | true => exact fun e => absurd ((hb1.mp hB)) (by rw [e]; exact fun z => z rfl)
    have hi10 : i + 1 ≤ 10 := by omega
    refine eg_name c (i := 4) rfl rfl (by decide) (.there (.there (.there (.there .here)))) ?_
    refine sl_cons (ss_set c (i := 5) rfl rfl ?_)
    refine ee_call c (i := 3) f__law_choose (by decide) rfl ?_
    refine ea_cons ?_
    refine ee_var c (i := 0) rfl rfl rfl ?_
    refine ea_cons ?_
    refine ee_var c (i := 1) rfl rfl rfl ?_
    refine ea_nil ?_
    refine ⟨_, _, _, .wr (by repeat (first | exact OutA.here | apply OutA.there)) (.nil _), ⟨q, _, _, _, _, .inl ⟨rfl, rfl⟩, by simpa using hgne, by rw [List.length_map]; omega, hs, rfl⟩, rfl, ?_⟩
    rintro d3 _ ⟨hd3, a3, b3, z3, rfl, hs3⟩
    obtain ⟨g, hgm, rfl⟩ := List.mem_map.mp hd3
    refine ⟨_, (.there (.there (.there (.there (.there .here))))), ?_⟩
    refine sl_cons (ss_set c (i := 3) rfl rfl ?_)
    refine ee_pcall c (i := 4) f__law_product (by decide) rfl ?_
    refine ea_cons ?_
    refine ee_var c (i := 3) rfl rfl rfl ?_
    refine ea_cons ?_
    refine ee_ifx ?_
    refine et_eqI ?_
    refine ee_call c (i := 1) f__law_draw (by decide) rfl ?_
    refine ea_cons ?_
    refine ee_var c (i := 0) rfl rfl rfl ?_
    refine ea_cons ?_
    refine ee_int ?_
    refine ea_nil ?_
    refine ⟨_, _, _, .wr (by repeat (first | exact OutA.here | apply OutA.there)) (.nil _), ⟨q, _, _, _, _, rfl, rfl, by decide, by decide, hs3, rfl⟩, rfl, ?_⟩
    rintro _ _ ⟨r4, a4, b4, z4, rfl, hr4, hq4, rfl, hs4⟩
    refine ee_int ?_
    refine ⟨_, _, rfl, rfl, ?_⟩
    refine ⟨fun h2 => ?_, fun h2 => ?_⟩
    · refine isT ?_
      refine ee_var c (i := 5) rfl rfl rfl ?_
      refine ea_nil ?_
      refine ⟨_, ⟨s, g, rfl, rfl⟩, rfl, ?_⟩
      rintro _ rfl
      refine ⟨_, (.there (.there (.there .here))), ?_⟩
      refine sl_nil ?_
      exact ⟨mul s g, _, _, _, _, _, rfl, rfl, hin.mul hgm, (Ab.mul hab (hgF g hgm)).mono (by rw [Nat.add_mul]; omega), hs4⟩
    · refine isF ?_
      refine ee_pcall c (i := 5) f__law_inverse (by decide) rfl ?_
      refine ea_cons ?_
      refine ee_var c (i := 5) rfl rfl rfl ?_
      refine ea_nil ?_
      refine ⟨_, ⟨g, rfl, rfl⟩, rfl, ?_⟩
      rintro _ rfl
      refine ea_nil ?_
      refine ⟨_, ⟨s, inv g, rfl, rfl⟩, rfl, ?_⟩
      rintro _ rfl
      refine ⟨_, (.there (.there (.there .here))), ?_⟩
      refine sl_nil ?_
      exact ⟨mul s (inv g), _, _, _, _, _, rfl, rfl, hin.inv hgm, (Ab.mul hab (hgF g hgm).inv).mono (by rw [Nat.add_mul]; omega), hs4⟩
  · rintro en2 st2 ⟨s, a, b, z, o5, o6, rfl, rfl, hin, hab, hs⟩
    rw [List.length_map, List.length_range] at hab
    refine sl_cons (ss_ret ?_)
    refine ee_var c (i := 3) rfl rfl rfl ?_
    exact ⟨_, .refl _, fun e he => by simp at he; rw [he], s, a, b, z, rfl, hin, hab.mono (Nat.mul_le_mul_right _ (by omega)), rfl, hs⟩
end G
end
section
set_option Elab.async false
set_option linter.all false
set_option maxRecDepth 100000
set_option maxHeartbeats 4000000
/-! N1: a, b, c = e1, e2, e3 of plain locals. -/
namespace G
open PySem L2
theorem sw3 {env : PySem.Env} {x y z : Str} {px py pz pt : Pos} {kt k2 : Nat} {pt2 : Pos} {e1 e2 e3 : Expr} (hb : env.scope.kind = .function) (hx : env.scope.names.lookup x = some .local) (hy : env.scope.names.lookup y = some .local) (hz : env.scope.names.lookup z = some .local)
    (hl : (py.line == px.line) = true) (hl2 : (pz.line == px.line) = true) (hne : [x, y, z].eraseDups = [x, y, z]) (h1 : starB e1 = false) (h2 : starB e2 = false) (h3 : starB e3 = false) (hf : (foldedForSure 8 e1 && (foldedForSure 8 e2 && foldedForSure 8 e3)) = false) (hc : (constantsAlone 8 e1 && (constantsAlone 8 e2 && constantsAlone 8 e3)) = false) :
    swappedStores [.Tuple [.Name x px, .Name y py, .Name z pz] kt pt] (.Tuple [e1, e2, e3] k2 pt2) env = pure (some [x, y, z]) := by
  have hbk : env.blockKind = .function := by unfold PySem.Env.blockKind; rw [hb]; rfl
  have kx : env.kindOf x = some .local := hx
  have ky : env.kindOf y = some .local := hy
  have kz : env.kindOf z = some .local := hz
  unfold swappedStores
  simp only [hbk, Expr.pos, List.head?_cons, Option.map_some, Option.getD_some, List.filterMap_cons, List.filterMap_nil, kx, ky, kz, hl, hl2, beq_self_eq_true, Bool.and_self, Bool.true_and, if_true, List.any_cons, List.any_nil, List.all_cons, List.all_nil, Bool.and_true, hf, hc, hne, List.length_cons, List.length_nil]
  refine (if_neg (by decide)).trans ((if_neg ?_).trans rfl)
  rw [Bool.or_eq_true, Bool.or_eq_true, Bool.or_eq_true]
  rintro (h | h | h | h)
  · cases e1 <;> first | exact absurd (show false = true from h) Bool.false_ne_true | exact absurd (show true = false from h1) (by decide)
  · cases e2 <;> first | exact absurd (show false = true from h) Bool.false_ne_true | exact absurd (show true = false from h2) (by decide)
  · cases e3 <;> first | exact absurd (show false = true from h) Bool.false_ne_true | exact absurd (show true = false from h3) (by decide)
  · cases h
section
variable {X : Cx} {F : Fr} {en : Env} {st : Sto} {P : Program} {w : World} {K : PySem.W.Frag} {mg : Str → Option Value} {base : Heap} {N Gs : List Str} {Vi M : List Nat} {k : Nat}
theorem ss_par3 (c : Cg P w K mg base N Gs Vi M k X) {Nn : Env → Sto → Prop} {R : D → Sto → Prop} {i j l : Nat} {x y z : Str} {e1 e2 e3 : Expr} {px py pz pt pos : Pos} {kt k2 : Nat} {pt2 : Pos} (hi : N[i]? = some x) (hj : N[j]? = some y) (hl : N[l]? = some z) (hij : i ≠ j) (hil : i ≠ l) (hjl : j ≠ l)
    (hx : X.env.scope.names.lookup x = some .local) (hy : X.env.scope.names.lookup y = some .local) (hz : X.env.scope.names.lookup z = some .local)
    (q : EA X F en [e1, e2, e3] st fun ds st1 => ∃ d1 d2 d3 en1 en2 en3, ds = [d1, d2, d3] ∧ ESet en i d1 en1 ∧ ESet en1 j d2 en2 ∧ ESet en2 l d3 en3 ∧ Nn en3 st1)
    (hl1 : (py.line == px.line) = true := by rfl) (hl2 : (pz.line == px.line) = true := by rfl) (hne : [x, y, z].eraseDups = [x, y, z] := by decide +kernel) (h1 : starB e1 = false := by rfl) (h2 : starB e2 = false := by rfl) (h3 : starB e3 = false := by rfl)
    (hf : (foldedForSure 8 e1 && (foldedForSure 8 e2 && foldedForSure 8 e3)) = false := by rfl) (hc : (constantsAlone 8 e1 && (constantsAlone 8 e2 && constantsAlone 8 e3)) = false := by rfl)
    (hs : swapsWithSole [.Tuple [.Name x px, .Name y py, .Name z pz] kt pt] (.Tuple [e1, e2, e3] k2 pt2) pos.line X.env = pure false := by rfl) : SS X F (.Assign [.Tuple [.Name x px, .Name y py, .Name z pz] kt pt] (.Tuple [e1, e2, e3] k2 pt2) pos) en st Nn R :=
  .intro fun σ H D a b n r => by
    refine ⟨_, ps_par3 (i := i) (j := j) (l := l) c.calm (by rw [c.eN]; exact c.nd) (by rw [c.eN]; exact hi) (by rw [c.eN]; exact hj) (by rw [c.eN]; exact hl) hij hil hjl hx hy hz pa_any (sw3 c.kind hx hy hz hl1 hl2 hne h1 h2 h3 hf hc) hs, q.use a b fun ds st1 vs H1 ⟨d1, d2, d3, en1, en2, en3, e, s1, s2, s3, q1⟩ a1 t1 at1 => ?_⟩
    subst e
    obtain ⟨v1, r1, rfl, g1, g2⟩ := ats_cons.mp at1
    obtain ⟨v2, r2, rfl, g3, g4⟩ := ats_cons.mp g2
    obtain ⟨v3, r3, rfl, g5, g6⟩ := ats_cons.mp g4
    obtain rfl := ats_nil.mp g6
    refine ⟨v1, v2, v3, rfl, n en3 st1 _ H1 q1 a1 ?_ t1⟩
    rw [s3.eq, s2.eq, s1.eq]
    exact (((b.mono t1).set g1).set g3).set g5
end
end G
namespace G
open PySem L2
theorem sw_cell {elt : Expr} {gs : List Comprehension} {scope : Scope} {pos py : Pos} {y : Str} {l : Nat} {env : PySem.Env} (hy : env.scope.names.lookup y = some .cell) : swapsWith (.ListComp elt gs scope pos) (some (.Name y py)) l env = pure false := by
  have ky : env.kindOf y = some .cell := hy
  have e : ((some NameKind.cell : Option NameKind) == some .local) = false := by decide
  unfold swapsWith
  simp only [ky, e, Bool.and_false, Bool.false_and]
end G
end
section
set_option Elab.async false
set_option linter.all false
set_option maxRecDepth 100000
set_option maxHeartbeats 4000000
/-! N2: the named groups. -/
namespace G
open PySem L2
instance {S : Nat} {v : V2} : Decidable (Ab S v) := by unfold Ab; infer_instance
def toS : D → Sy
  | .tup [.int k, .int x, .int y] => (Fin.ofNat 8 k.toNat, (x, y))
  | _ => one
def toG : D → List Sy
  | .tup ds => ds.map toS
  | _ => []
def Good (d : D) : Prop := ∃ gs, d = dG gs ∧ gs.length ≤ 6 ∧ ∀ g ∈ gs, Ab 4 g.2
theorem good_of (d : D) (h : d = dG (toG d)) (h2 : (toG d).length ≤ 6) (h3 : ∀ g ∈ toG d, Ab 4 g.2) : Good d := ⟨toG d, h, h2, h3⟩
/-- a drawn group -/
def W_grp : Spec := fun want ds R => ∃ (q : Addr) (a b z : Int), want = [⟨q, true, sO a b z⟩] ∧ ds = [.ref q] ∧ SRC a b ∧ R = GR q 10 6
theorem GR.mono {q : Addr} {F L F' L' : Nat} {d : D} {st : Sto} (h : GR q F L d st) (hF : F ≤ F') (hL : L ≤ L') : GR q F' L' d st := by
  obtain ⟨gs, a, b, z, h1, h2, h3, h4, h5⟩ := h
  exact ⟨gs, a, b, z, h1, by omega, fun g hg => (h3 g hg).mono hF, h4, h5⟩
end G
namespace G
open PySem L2
theorem ixN_last {α : Type} (xs : List α) (x : α) : ixN (xs ++ [x]).length (-1) = some xs.length := by
  have hl : (xs ++ [x]).length = xs.length + 1 := by simp
  unfold ixN
  rw [hl, if_neg (by decide), if_pos (by omega)]
  congr 1; omega
theorem set_last {α : Type} (xs : List α) (x y : α) : (xs ++ [x]).set xs.length y = xs ++ [y] := by
  rw [List.set_append_right _ _ (Nat.le_refl _), Nat.sub_self]; rfl
theorem fl_mul_bd {n t : Int} {f : Nat} (h : n.natAbs ≤ f) (h1 : 1 ≤ t) (h2 : t ≤ 4) : (n.fdiv t * t).natAbs ≤ f + 4 := by
  have e := Int.fmod_add_mul_fdiv n t
  have e1 := Int.fmod_nonneg_of_pos n (show 0 < t by omega)
  have e2 := Int.fmod_lt_of_pos n (show 0 < t by omega)
  rw [Int.mul_comm]
  omega
def clip (f : Nat) (g : Sy) : Sy := (g.1, (max (0 - (f : Int)) g.2.1, max (0 - (f : Int)) g.2.2))
theorem clip_ab {f : Nat} {g : Sy} (h : Ab (f + 4) g.2) : Ab (f + 4) (clip f g).2 := by
  obtain ⟨h1, h2⟩ := h
  refine ⟨?_, ?_⟩
  · show (max (0 - (f : Int)) g.2.1).natAbs ≤ f + 4; omega
  · show (max (0 - (f : Int)) g.2.2).natAbs ≤ f + 4; omega
end G
end
section
set_option Elab.async false
set_option linter.all false
set_option maxRecDepth 100000
set_option maxHeartbeats 4000000
namespace G
open PySem L2
variable {P : Program} {w : World} {K : PySem.W.Frag} {mg : Str → Option Value} {base : Heap}
theorem ok__law_named_group {f : Addr} {fd : FuncData} (Fu : FunT K "_law_named_group" 94 [] f fd) (mb : MB mg) (mc : MC K mg) (f__law_choose : Fn P w K mg base "_law_choose" 2 2 [] W__law_choose) (f__law_symmetry : Fn P w K mg base "_law_symmetry" 3 2 [] W__law_symmetry) (f__law_carried : Fn P w K mg base "_law_carried" 4 2 [] W__law_carried) (f__law_draw : Fn P w K mg base "_law_draw" 1 2 [] W__law_draw) : FnOk P w K mg base CX0 5 f fd ["_law_source_here"] (spW K 1 W_grp) := by
  refine fnok_mk (N := ["_law_source_here", "_law_a", "_law_b", "_law_wide", "_law_even", "_law_half", "_law_some", "_law_found", "_law_symmetry_here", "_law_one"]) (Gs := ["_law_draw", "_law_choose", "_law_symmetry", "tuple"]) (Vi := [0, 1, 2, 3, 4, 5, 6, 7, 8]) Fu ⟨rfl, rfl, rfl, by decide +kernel, rfl, by decide +kernel, by decide +kernel⟩ (by decide +kernel) rfl ?_
  rintro X F want ds R c hsc ⟨q, a0, b0, z0, rfl, rfl, hs, rfl⟩ hl hF
  show SL X F _ [some _, none, none, none, none, none, none, none, none, none] _ _ _
  refine sl_cons (ss_par2 c (i := 1) (j := 2) rfl rfl rfl rfl (by rw [hsc]; rfl) (by rw [hsc]; rfl) ?_)
  refine ea_cons ?_
  refine ee_mulO ?_
  refine ee_int ?_
  refine ee_add ?_
  refine ee_int ?_
  refine ee_call c (i := 0) f__law_draw (by decide) rfl ?_
  refine ea_cons ?_
  refine ee_var c (i := 0) rfl rfl rfl ?_
  refine ea_cons ?_
  refine ee_int ?_
  refine ea_nil ?_
  refine ⟨_, _, _, .wr (by repeat (first | exact OutA.here | apply OutA.there)) (.nil _), ⟨q, _, _, _, _, rfl, rfl, by decide, by decide, hs, rfl⟩, rfl, ?_⟩
  rintro _ _ ⟨r1, a1, b1, z1, rfl, hr1, hq1, rfl, hs1⟩
  refine ⟨_, _, rfl, rfl, ?_⟩
  refine ⟨_, _, rfl, rfl, mulS1 (by decide), ?_⟩
  refine ea_cons ?_
  refine ee_mulO ?_
  refine ee_int ?_
  refine ee_add ?_
  refine ee_int ?_
  refine ee_call c (i := 0) f__law_draw (by decide) rfl ?_
  refine ea_cons ?_
  refine ee_var c (i := 0) rfl rfl rfl ?_
  refine ea_cons ?_
  refine ee_int ?_
  refine ea_nil ?_
  refine ⟨_, _, _, .wr (by repeat (first | exact OutA.here | apply OutA.there)) (.nil _), ⟨q, _, _, _, _, rfl, rfl, by decide, by decide, hs1, rfl⟩, rfl, ?_⟩
  rintro _ _ ⟨r2, a2, b2, z2, rfl, hr2, hq2, rfl, hs2⟩
  refine ⟨_, _, rfl, rfl, ?_⟩
  refine ⟨_, _, rfl, rfl, mulS1 (by decide), ?_⟩
  refine ea_nil ?_
  refine ⟨_, _, _, _, rfl, (.there .here), (.there (.there .here)), ?_⟩
  refine sl_cons (ss_par3 c (i := 3) (j := 4) (l := 5) rfl rfl rfl (by decide) (by decide) (by decide) (by rw [hsc]; rfl) (by rw [hsc]; rfl) (by rw [hsc]; rfl) ?_)
  refine ea_cons ?_
  refine ee_tup ?_
  refine ea_cons ?_
  refine ee_tup ?_
  refine ea_cons ?_
  refine ee_int ?_
  refine ea_cons ?_
  refine ee_var c (i := 1) rfl rfl rfl ?_
  refine ea_cons ?_
  refine ee_int ?_
  refine ea_nil ?_
  refine ⟨Nat.le_of_ble_eq_true rfl, ?_⟩
  refine ea_cons ?_
  refine ee_tup ?_
  refine ea_cons ?_
  refine ee_int ?_
  refine ea_cons ?_
  refine ee_int ?_
  refine ea_cons ?_
  refine ee_var c (i := 2) rfl rfl rfl ?_
  refine ea_nil ?_
  refine ⟨Nat.le_of_ble_eq_true rfl, ?_⟩
  refine ea_nil ?_
  refine ⟨Nat.le_of_ble_eq_true rfl, ?_⟩
  refine ea_cons ?_
  refine ee_tup ?_
  refine ea_cons ?_
  refine ee_tup ?_
  refine ea_cons ?_
  refine ee_int ?_
  refine ea_cons ?_
  refine ee_var c (i := 1) rfl rfl rfl ?_
  refine ea_cons ?_
  refine ee_int ?_
  refine ea_nil ?_
  refine ⟨Nat.le_of_ble_eq_true rfl, ?_⟩
  refine ea_cons ?_
  refine ee_tup ?_
  refine ea_cons ?_
  refine ee_int ?_
  refine ea_cons ?_
  refine ee_int ?_
  refine ea_cons ?_
  refine ee_var c (i := 1) rfl rfl rfl ?_
  refine ea_nil ?_
  refine ⟨Nat.le_of_ble_eq_true rfl, ?_⟩
  refine ea_cons ?_
  refine ee_tup ?_
  refine ea_cons ?_
  refine ee_int ?_
  refine ea_cons ?_
  refine ee_int ?_
  refine ea_cons ?_
  refine ee_int ?_
  refine ea_nil ?_
  refine ⟨Nat.le_of_ble_eq_true rfl, ?_⟩
  refine ea_nil ?_
  refine ⟨Nat.le_of_ble_eq_true rfl, ?_⟩
  refine ea_cons ?_
  refine ee_fdiv ?_
  refine ee_var c (i := 1) rfl rfl rfl ?_
  refine ee_int ?_
  refine ⟨_, _, rfl, rfl, ⟨by decide, by decide⟩, ?_⟩
  refine ea_nil ?_
  refine ⟨_, _, _, _, _, _, rfl, (.there (.there (.there .here))), (.there (.there (.there (.there .here)))), (.there (.there (.there (.there (.there .here))))), ?_⟩
  refine sl_cons (ss_set c (i := 6) rfl rfl ?_)
  refine ee_lst ?_
  refine ea_cons ?_
  refine ee_catT ?_
  refine ee_var c (i := 3) rfl rfl rfl ?_
  refine ee_tup ?_
  refine ea_cons ?_
  refine ee_tup ?_
  refine ea_cons ?_
  refine ee_int ?_
  refine ea_cons ?_
  refine ee_int ?_
  refine ea_cons ?_
  refine ee_int ?_
  refine ea_nil ?_
  refine ⟨Nat.le_of_ble_eq_true rfl, ?_⟩
  refine ea_nil ?_
  refine ⟨Nat.le_of_ble_eq_true rfl, ?_⟩
  refine ⟨_, _, rfl, rfl, Nat.le_of_ble_eq_true rfl, ?_⟩
  refine ea_cons ?_
  refine ee_catT ?_
  refine ee_var c (i := 3) rfl rfl rfl ?_
  refine ee_tup ?_
  refine ea_cons ?_
  refine ee_tup ?_
  refine ea_cons ?_
  refine ee_int ?_
  refine ea_cons ?_
  refine ee_int ?_
  refine ea_cons ?_
  refine ee_int ?_
  refine ea_nil ?_
  refine ⟨Nat.le_of_ble_eq_true rfl, ?_⟩
  refine ea_nil ?_
  refine ⟨Nat.le_of_ble_eq_true rfl, ?_⟩
  refine ⟨_, _, rfl, rfl, Nat.le_of_ble_eq_true rfl, ?_⟩
  refine ea_cons ?_
  refine ee_catT ?_
  refine ee_var c (i := 3) rfl rfl rfl ?_
  refine ee_tup ?_
  refine ea_cons ?_
  refine ee_tup ?_
  refine ea_cons ?_
  refine ee_int ?_
  refine ea_cons ?_
  refine ee_int ?_
  refine ea_cons ?_
  refine ee_fdiv ?_
  refine ee_var c (i := 2) rfl rfl rfl ?_
  refine ee_int ?_
  refine ⟨_, _, rfl, rfl, ⟨by decide, by decide⟩, ?_⟩
  refine ea_nil ?_
  refine ⟨Nat.le_of_ble_eq_true rfl, ?_⟩
  refine ea_nil ?_
  refine ⟨Nat.le_of_ble_eq_true rfl, ?_⟩
  refine ⟨_, _, rfl, rfl, Nat.le_of_ble_eq_true rfl, ?_⟩
  refine ea_cons ?_
  refine ee_var c (i := 4) rfl rfl rfl ?_
  refine ea_cons ?_
  refine ee_catT ?_
  refine ee_var c (i := 4) rfl rfl rfl ?_
  refine ee_tup ?_
  refine ea_cons ?_
  refine ee_tup ?_
  refine ea_cons ?_
  refine ee_int ?_
  refine ea_cons ?_
  refine ee_int ?_
  refine ea_cons ?_
  refine ee_int ?_
  refine ea_nil ?_
  refine ⟨Nat.le_of_ble_eq_true rfl, ?_⟩
  refine ea_nil ?_
  refine ⟨Nat.le_of_ble_eq_true rfl, ?_⟩
  refine ⟨_, _, rfl, rfl, Nat.le_of_ble_eq_true rfl, ?_⟩
  refine ea_nil ?_
  refine ⟨Nat.le_of_ble_eq_true rfl, fun p1 => ?_⟩
  refine ⟨_, (.there (.there (.there (.there (.there (.there .here)))))), ?_⟩
  refine sl_cons (ss_expr ?_)
  refine ee_append ?_
  refine ee_var c (i := 6) rfl rfl rfl ?_
  refine ⟨_, _, rfl, (by repeat (first | exact Has.here | apply Has.there)), ?_⟩
  refine ee_catT ?_
  refine ee_var c (i := 3) rfl rfl rfl ?_
  refine ee_tup ?_
  refine ea_cons ?_
  refine ee_tup ?_
  refine ea_cons ?_
  refine ee_int ?_
  refine ea_cons ?_
  refine ee_var c (i := 5) rfl rfl rfl ?_
  refine ea_cons ?_
  refine ee_fdiv ?_
  refine ee_var c (i := 2) rfl rfl rfl ?_
  refine ee_int ?_
  refine ⟨_, _, rfl, rfl, ⟨by decide, by decide⟩, ?_⟩
  refine ea_nil ?_
  refine ⟨Nat.le_of_ble_eq_true rfl, ?_⟩
  refine ea_cons ?_
  refine ee_tup ?_
  refine ea_cons ?_
  refine ee_int ?_
  refine ea_cons ?_
  refine ee_int ?_
  refine ea_cons ?_
  refine ee_int ?_
  refine ea_nil ?_
  refine ⟨Nat.le_of_ble_eq_true rfl, ?_⟩
  refine ea_nil ?_
  refine ⟨Nat.le_of_ble_eq_true rfl, ?_⟩
  refine ⟨_, _, rfl, rfl, Nat.le_of_ble_eq_true rfl, ?_⟩
  refine ⟨_, _, (by repeat (first | exact Put.here | apply Put.there)), Nat.lt_of_lt_of_le (Nat.lt_of_succ_le (Nat.le_of_ble_eq_true rfl : _ ≤ 64)) (by have := sizeLine_big; omega), ?_⟩
  refine sl_cons (ss_expr ?_)
  refine ee_append ?_
  refine ee_var c (i := 6) rfl rfl rfl ?_
  refine ⟨_, _, rfl, (by repeat (first | exact Has.here | apply Has.there)), ?_⟩
  refine ee_catT ?_
  refine ee_var c (i := 3) rfl rfl rfl ?_
  refine ee_tup ?_
  refine ea_cons ?_
  refine ee_tup ?_
  refine ea_cons ?_
  refine ee_int ?_
  refine ea_cons ?_
  refine ee_int ?_
  refine ea_cons ?_
  refine ee_int ?_
  refine ea_nil ?_
  refine ⟨Nat.le_of_ble_eq_true rfl, ?_⟩
  refine ea_cons ?_
  refine ee_tup ?_
  refine ea_cons ?_
  refine ee_int ?_
  refine ea_cons ?_
  refine ee_int ?_
  refine ea_cons ?_
  refine ee_int ?_
  refine ea_nil ?_
  refine ⟨Nat.le_of_ble_eq_true rfl, ?_⟩
  refine ea_nil ?_
  refine ⟨Nat.le_of_ble_eq_true rfl, ?_⟩
  refine ⟨_, _, rfl, rfl, Nat.le_of_ble_eq_true rfl, ?_⟩
  refine ⟨_, _, (by repeat (first | exact Put.here | apply Put.there)), Nat.lt_of_lt_of_le (Nat.lt_of_succ_le (Nat.le_of_ble_eq_true rfl : _ ≤ 64)) (by have := sizeLine_big; omega), ?_⟩
  refine sl_cons (ss_expr ?_)
  refine ee_append ?_
  refine ee_var c (i := 6) rfl rfl rfl ?_
  refine ⟨_, _, rfl, (by repeat (first | exact Has.here | apply Has.there)), ?_⟩
  refine ee_catT ?_
  refine ee_var c (i := 3) rfl rfl rfl ?_
  refine ee_tup ?_
  refine ea_cons ?_
  refine ee_tup ?_
  refine ea_cons ?_
  refine ee_int ?_
  refine ea_cons ?_
  refine ee_int ?_
  refine ea_cons ?_
  refine ee_int ?_
  refine ea_nil ?_
  refine ⟨Nat.le_of_ble_eq_true rfl, ?_⟩
  refine ea_cons ?_
  refine ee_tup ?_
  refine ea_cons ?_
  refine ee_int ?_
  refine ea_cons ?_
  refine ee_var c (i := 5) rfl rfl rfl ?_
  refine ea_cons ?_
  refine ee_int ?_
  refine ea_nil ?_
  refine ⟨Nat.le_of_ble_eq_true rfl, ?_⟩
  refine ea_nil ?_
  refine ⟨Nat.le_of_ble_eq_true rfl, ?_⟩
  refine ⟨_, _, rfl, rfl, Nat.le_of_ble_eq_true rfl, ?_⟩
  refine ⟨_, _, (by repeat (first | exact Put.here | apply Put.there)), Nat.lt_of_lt_of_le (Nat.lt_of_succ_le (Nat.le_of_ble_eq_true rfl : _ ≤ 64)) (by have := sizeLine_big; omega), ?_⟩
  refine sl_cons (ss_expr ?_)
  refine ee_append ?_
  refine ee_var c (i := 6) rfl rfl rfl ?_
  refine ⟨_, _, rfl, (by repeat (first | exact Has.here | apply Has.there)), ?_⟩
  refine ee_catT ?_
  refine ee_var c (i := 3) rfl rfl rfl ?_
  refine ee_tup ?_
  refine ea_cons ?_
  refine ee_tup ?_
  refine ea_cons ?_
  refine ee_int ?_
  refine ea_cons ?_
  refine ee_var c (i := 5) rfl rfl rfl ?_
  refine ea_cons ?_
  refine ee_fdiv ?_
  refine ee_var c (i := 2) rfl rfl rfl ?_
  refine ee_int ?_
  refine ⟨_, _, rfl, rfl, ⟨by decide, by decide⟩, ?_⟩
  refine ea_nil ?_
  refine ⟨Nat.le_of_ble_eq_true rfl, ?_⟩
  refine ea_cons ?_
  refine ee_tup ?_
  refine ea_cons ?_
  refine ee_int ?_
  refine ea_cons ?_
  refine ee_int ?_
  refine ea_cons ?_
  refine ee_int ?_
  refine ea_nil ?_
  refine ⟨Nat.le_of_ble_eq_true rfl, ?_⟩
  refine ea_nil ?_
  refine ⟨Nat.le_of_ble_eq_true rfl, ?_⟩
  refine ⟨_, _, rfl, rfl, Nat.le_of_ble_eq_true rfl, ?_⟩
  refine ⟨_, _, (by repeat (first | exact Put.here | apply Put.there)), Nat.lt_of_lt_of_le (Nat.lt_of_succ_le (Nat.le_of_ble_eq_true rfl : _ ≤ 64)) (by have := sizeLine_big; omega), ?_⟩
  refine sl_cons (ss_expr ?_)
  refine ee_append ?_
  refine ee_var c (i := 6) rfl rfl rfl ?_
  refine ⟨_, _, rfl, (by repeat (first | exact Has.here | apply Has.there)), ?_⟩
  refine ee_catT ?_
  refine ee_var c (i := 3) rfl rfl rfl ?_
  refine ee_tup ?_
  refine ea_cons ?_
  refine ee_tup ?_
  refine ea_cons ?_
  refine ee_int ?_
  refine ea_cons ?_
  refine ee_var c (i := 5) rfl rfl rfl ?_
  refine ea_cons ?_
  refine ee_fdiv ?_
  refine ee_var c (i := 2) rfl rfl rfl ?_
  refine ee_int ?_
  refine ⟨_, _, rfl, rfl, ⟨by decide, by decide⟩, ?_⟩
  refine ea_nil ?_
  refine ⟨Nat.le_of_ble_eq_true rfl, ?_⟩
  refine ea_cons ?_
  refine ee_tup ?_
  refine ea_cons ?_
  refine ee_int ?_
  refine ea_cons ?_
  refine ee_int ?_
  refine ea_cons ?_
  refine ee_int ?_
  refine ea_nil ?_
  refine ⟨Nat.le_of_ble_eq_true rfl, ?_⟩
  refine ea_cons ?_
  refine ee_tup ?_
  refine ea_cons ?_
  refine ee_int ?_
  refine ea_cons ?_
  refine ee_int ?_
  refine ea_cons ?_
  refine ee_int ?_
  refine ea_nil ?_
  refine ⟨Nat.le_of_ble_eq_true rfl, ?_⟩
  refine ea_nil ?_
  refine ⟨Nat.le_of_ble_eq_true rfl, ?_⟩
  refine ⟨_, _, rfl, rfl, Nat.le_of_ble_eq_true rfl, ?_⟩
  refine ⟨_, _, (by repeat (first | exact Put.here | apply Put.there)), Nat.lt_of_lt_of_le (Nat.lt_of_succ_le (Nat.le_of_ble_eq_true rfl : _ ≤ 64)) (by have := sizeLine_big; omega), ?_⟩
  refine sl_cons (ss_set c (i := 6) rfl rfl ?_)
  refine ee_catL ?_
  refine ee_var c (i := 6) rfl rfl rfl ?_
  refine ee_lst ?_
  refine ea_cons ?_
  refine ee_catT ?_
  refine ee_var c (i := 4) rfl rfl rfl ?_
  refine ee_tup ?_
  refine ea_cons ?_
  refine ee_tup ?_
  refine ea_cons ?_
  refine ee_int ?_
  refine ea_cons ?_
  refine ee_var c (i := 5) rfl rfl rfl ?_
  refine ea_cons ?_
  refine ee_var c (i := 5) rfl rfl rfl ?_
  refine ea_nil ?_
  refine ⟨Nat.le_of_ble_eq_true rfl, ?_⟩
  refine ea_nil ?_
  refine ⟨Nat.le_of_ble_eq_true rfl, ?_⟩
  refine ⟨_, _, rfl, rfl, Nat.le_of_ble_eq_true rfl, ?_⟩
  refine ea_cons ?_
  refine ee_tup ?_
  refine ea_cons ?_
  refine ee_tup ?_
  refine ea_cons ?_
  refine ee_int ?_
  refine ea_cons ?_
  refine ee_var c (i := 1) rfl rfl rfl ?_
  refine ea_cons ?_
  refine ee_int ?_
  refine ea_nil ?_
  refine ⟨Nat.le_of_ble_eq_true rfl, ?_⟩
  refine ea_cons ?_
  refine ee_tup ?_
  refine ea_cons ?_
  refine ee_int ?_
  refine ea_cons ?_
  refine ee_int ?_
  refine ea_cons ?_
  refine ee_int ?_
  refine ea_nil ?_
  refine ⟨Nat.le_of_ble_eq_true rfl, ?_⟩
  refine ea_nil ?_
  refine ⟨Nat.le_of_ble_eq_true rfl, ?_⟩
  refine ea_cons ?_
  refine ee_tup ?_
  refine ea_cons ?_
  refine ee_tup ?_
  refine ea_cons ?_
  refine ee_int ?_
  refine ea_cons ?_
  refine ee_var c (i := 5) rfl rfl rfl ?_
  refine ea_cons ?_
  refine ee_int ?_
  refine ea_nil ?_
  refine ⟨Nat.le_of_ble_eq_true rfl, ?_⟩
  refine ea_cons ?_
  refine ee_tup ?_
  refine ea_cons ?_
  refine ee_int ?_
  refine ea_cons ?_
  refine ee_int ?_
  refine ea_cons ?_
  refine ee_int ?_
  refine ea_nil ?_
  refine ⟨Nat.le_of_ble_eq_true rfl, ?_⟩
  refine ea_nil ?_
  refine ⟨Nat.le_of_ble_eq_true rfl, ?_⟩
  refine ea_cons ?_
  refine ee_tup ?_
  refine ea_cons ?_
  refine ee_tup ?_
  refine ea_cons ?_
  refine ee_int ?_
  refine ea_cons ?_
  refine ee_var c (i := 1) rfl rfl rfl ?_
  refine ea_cons ?_
  refine ee_int ?_
  refine ea_nil ?_
  refine ⟨Nat.le_of_ble_eq_true rfl, ?_⟩
  refine ea_nil ?_
  refine ⟨Nat.le_of_ble_eq_true rfl, ?_⟩
  refine ea_nil ?_
  refine ⟨Nat.le_of_ble_eq_true rfl, fun p2 => ?_⟩
  refine ⟨_, _, _, _, _, _, rfl, rfl, (by repeat (first | exact Put.here | apply Put.there)), (by repeat (first | exact Put.here | apply Put.there)), Nat.le_of_ble_eq_true rfl, fun PP => ?_⟩
  refine ⟨_, (.there (.there (.there (.there (.there (.there .here)))))), ?_⟩
  refine sl_cons (ss_expr ?_)
  refine ee_append ?_
  refine ee_var c (i := 6) rfl rfl rfl ?_
  refine ⟨_, _, rfl, (by repeat (first | exact Has.here | apply Has.there)), ?_⟩
  refine ee_tup ?_
  refine ea_cons ?_
  refine ee_tup ?_
  refine ea_cons ?_
  refine ee_int ?_
  refine ea_cons ?_
  refine ee_var c (i := 1) rfl rfl rfl ?_
  refine ea_cons ?_
  refine ee_var c (i := 1) rfl rfl rfl ?_
  refine ea_nil ?_
  refine ⟨Nat.le_of_ble_eq_true rfl, ?_⟩
  refine ea_cons ?_
  refine ee_tup ?_
  refine ea_cons ?_
  refine ee_int ?_
  refine ea_cons ?_
  refine ee_int ?_
  refine ea_cons ?_
  refine ee_int ?_
  refine ea_nil ?_
  refine ⟨Nat.le_of_ble_eq_true rfl, ?_⟩
  refine ea_cons ?_
  refine ee_tup ?_
  refine ea_cons ?_
  refine ee_int ?_
  refine ea_cons ?_
  refine ee_int ?_
  refine ea_cons ?_
  refine ee_int ?_
  refine ea_nil ?_
  refine ⟨Nat.le_of_ble_eq_true rfl, ?_⟩
  refine ea_nil ?_
  refine ⟨Nat.le_of_ble_eq_true rfl, ?_⟩
  refine ⟨_, _, (by repeat (first | exact Put.here | apply Put.there)), Nat.lt_of_lt_of_le (Nat.lt_of_succ_le (Nat.le_of_ble_eq_true rfl : _ ≤ 64)) (by have := sizeLine_big; omega), ?_⟩
  refine sl_cons (ss_set c (i := 6) rfl rfl ?_)
  refine ee_catL ?_
  refine ee_var c (i := 6) rfl rfl rfl ?_
  refine ee_lst ?_
  refine ea_cons ?_
  refine ee_tup ?_
  refine ea_cons ?_
  refine ee_tup ?_
  refine ea_cons ?_
  refine ee_int ?_
  refine ea_cons ?_
  refine ee_var c (i := 5) rfl rfl rfl ?_
  refine ea_cons ?_
  refine ee_int ?_
  refine ea_nil ?_
  refine ⟨Nat.le_of_ble_eq_true rfl, ?_⟩
  refine ea_cons ?_
  refine ee_tup ?_
  refine ea_cons ?_
  refine ee_int ?_
  refine ea_cons ?_
  refine ee_var c (i := 5) rfl rfl rfl ?_
  refine ea_cons ?_
  refine ee_int ?_
  refine ea_nil ?_
  refine ⟨Nat.le_of_ble_eq_true rfl, ?_⟩
  refine ea_nil ?_
  refine ⟨Nat.le_of_ble_eq_true rfl, ?_⟩
  refine ea_cons ?_
  refine ee_tup ?_
  refine ea_cons ?_
  refine ee_tup ?_
  refine ea_cons ?_
  refine ee_int ?_
  refine ea_cons ?_
  refine ee_int ?_
  refine ea_cons ?_
  refine ee_int ?_
  refine ea_nil ?_
  refine ⟨Nat.le_of_ble_eq_true rfl, ?_⟩
  refine ea_cons ?_
  refine ee_tup ?_
  refine ea_cons ?_
  refine ee_int ?_
  refine ea_cons ?_
  refine ee_int ?_
  refine ea_cons ?_
  refine ee_int ?_
  refine ea_nil ?_
  refine ⟨Nat.le_of_ble_eq_true rfl, ?_⟩
  refine ea_nil ?_
  refine ⟨Nat.le_of_ble_eq_true rfl, ?_⟩
  refine ea_cons ?_
  refine ee_tup ?_
  refine ea_cons ?_
  refine ee_tup ?_
  refine ea_cons ?_
  refine ee_int ?_
  refine ea_cons ?_
  refine ee_int ?_
  refine ea_cons ?_
  refine ee_int ?_
  refine ea_nil ?_
  refine ⟨Nat.le_of_ble_eq_true rfl, ?_⟩
  refine ea_nil ?_
  refine ⟨Nat.le_of_ble_eq_true rfl, ?_⟩
  refine ea_nil ?_
  refine ⟨Nat.le_of_ble_eq_true rfl, fun p3 => ?_⟩
  refine ⟨_, _, _, _, _, _, rfl, rfl, (by repeat (first | exact Put.here | apply Put.there)), (by repeat (first | exact Put.here | apply Put.there)), Nat.le_of_ble_eq_true rfl, fun PP => ?_⟩
  refine ⟨_, (.there (.there (.there (.there (.there (.there .here)))))), ?_⟩
  refine sl_cons (ss_asg (vs := [7, 8]) ?_ (hw := swC (y := "_law_symmetry_here") (.tail _ (.head _)) (by rw [hsc]; decide)))
  refine ee_tup ?_
  refine ea_cons ?_
  refine ee_call c (i := 1) f__law_choose (by decide) rfl ?_
  refine ea_cons ?_
  refine ee_var c (i := 0) rfl rfl rfl ?_
  refine ea_cons ?_
  refine ee_var c (i := 6) rfl rfl rfl ?_
  refine ea_nil ?_
  refine ⟨_, _, _, .wr (by repeat (first | exact OutA.here | apply OutA.there)) (.rd (by repeat (first | exact OutA.here | apply OutA.there)) (.nil _)), ⟨q, _, _, _, _, .inr ⟨_, rfl, rfl⟩, by simp, by simp, hs2, rfl⟩, rfl, ?_⟩
  rintro d3 _ ⟨hd3, a3, b3, z3, rfl, hs3⟩
  have hG : Good d3 := by
    clear hsc
    have e1 : r1 = 0 ∨ r1 = 1 := by omega
    have e2 : r2 = 0 ∨ r2 = 1 := by omega
    simp only [List.mem_append, List.mem_cons, List.not_mem_nil, or_false] at hd3
    rcases e1 with rfl | rfl <;> rcases e2 with rfl | rfl <;> (repeat' (rcases hd3 with hd3 | hd3)) <;> exact good_of _ rfl (by decide) (by decide)
  obtain ⟨gs, rfl, hgl, hgb⟩ := hG
  refine ea_cons ?_
  refine ee_call c (i := 2) f__law_symmetry (by decide) rfl ?_
  refine ea_cons ?_
  refine ee_var c (i := 0) rfl rfl rfl ?_
  refine ea_cons ?_
  refine ee_int ?_
  refine ea_nil ?_
  refine ⟨_, _, _, .wr (by repeat (first | exact OutA.here | apply OutA.there)) (.nil _), ⟨q, _, _, _, 3, rfl, rfl, by omega, hs3, rfl⟩, rfl, ?_⟩
  rintro _ _ ⟨s4, a4, b4, z4, rfl, hv4, rfl, hs4⟩
  refine ea_nil ?_
  refine ⟨Nat.le_of_ble_eq_true rfl, ?_⟩
  refine eg_tup c (n := 2) ?_ rfl
  refine egs_cons ?_
  refine eg_name c (i := 7) rfl rfl (by decide) (.there (.there (.there (.there (.there (.there (.there .here))))))) ?_
  refine egs_cons ?_
  refine eg_name c (i := 8) rfl rfl (by decide) (.there (.there (.there (.there (.there (.there (.there (.there .here)))))))) ?_
  refine egs_nil ?_
  refine sl_st (.cons_cons _ (List.nil_sublist _)) ?_
  refine sl_cons (ss_ret ?_)
  refine ee_tupleL c (i := 3) rfl mb.tuple ?_
  refine ee_lc c [("_law_one", 9)] (G' := ["_law_carried"]) (V' := [8, 9]) (by rw [hsc]; decide +kernel) (by rw [hsc]; decide +kernel) ?_
  refine ei_tup ?_
  refine ee_var c (i := 7) rfl rfl rfl ?_
  refine ⟨_, rfl, ?_⟩
  intro p4
  refine ⟨fun i st => st = [⟨p4, true, .lst (((gs.take i).map fun o => mul (mul (inv s4) o) s4).map dS)⟩, ⟨q, true, sO a4 b4 z4⟩], rfl, fun _ _ _ _ => trivial, ?_, ?_⟩
  · rintro i d st2 hd rfl Xp4 hX
    obtain ⟨o, ho, rfl⟩ := getMap hd
    refine eg_name hX.2 (i := 9) rfl rfl (by decide) (.there (.there (.there (.there (.there (.there (.there (.there (.there .here))))))))) ?_
    intro Xp4 hX
    refine ee_pcall hX.2 (i := 0) f__law_carried (by decide) rfl ?_
    refine ea_cons ?_
    refine ee_var hX.2 (i := 8) rfl rfl rfl ?_
    refine ea_cons ?_
    refine ee_var hX.2 (i := 9) rfl rfl rfl ?_
    refine ea_nil ?_
    refine ⟨_, ⟨s4, o, rfl, rfl⟩, rfl, ?_⟩
    rintro _ rfl
    refine ⟨_, _, .here, by rw [List.map_map]; exact lenTake ho (by have := sizeLine_big; omega), ?_⟩
    show _ = _
    rw [takeS ho, List.map_append, List.map_append]; rfl
  · rintro st2 rfl
    rw [List.length_map, List.take_length]
    refine ⟨_, _, rfl, .here, ?_⟩
    refine ⟨_, .cons _ (.refl _), fun e he => by simp at he; rw [he], gs.map fun o => mul (mul (inv s4) o) s4, a4, b4, z4, rfl, by rw [List.length_map]; exact hgl, fun g hg => ?_, rfl, hs4⟩
    obtain ⟨o, ho, rfl⟩ := List.mem_map.mp hg
    exact (Ab.mul (Ab.mul hv4.inv (hgb o ho)) hv4).mono (by omega)
end G
end
section
set_option Elab.async false
set_option linter.all false
set_option maxRecDepth 100000
set_option maxHeartbeats 4000000
namespace G
open PySem L2
variable {P : Program} {w : World} {K : PySem.W.Frag} {mg : Str → Option Value} {base : Heap}
def W__law_generators : Spec := fun want ds R => ∃ (q : Addr) (a b z : Int) (m f : Nat), want = [⟨q, true, sO a b z⟩] ∧ ds = [.ref q, .int (m : Nat), .int (f : Nat)] ∧ m ≤ 6 ∧ f ≤ 1000 ∧ SRC a b ∧ R = GR q (f + 4) m
theorem ok__law_generators {f : Addr} {fd : FuncData} (Fu : FunT K "_law_generators" 89 [] f fd) (mb : MB mg) (mc : MC K mg) (f__law_draw : Fn P w K mg base "_law_draw" 1 2 [] W__law_draw) (f__law_square : Fn P w K mg base "_law_square" 2 2 [] W__law_square) (f__law_symmetry : Fn P w K mg base "_law_symmetry" 3 2 [] W__law_symmetry) (f__law_choose : Fn P w K mg base "_law_choose" 2 2 [] W__law_choose) : FnOk P w K mg base CX0 4 f fd ["_law_source_here", "_law_most", "_law_far"] (spW K 3 W__law_generators) := by
  refine fnok_mk (N := ["_law_source_here", "_law_most", "_law_far", "_law_way", "_law_found", "_law_kind", "_law_step", "_law_times", "_law_lap", "_law_many", "_law_x", "_law_y", "_law_one"]) (Gs := ["_law_draw", "_law_square", "range", "_law_symmetry", "max", "min", "tuple"]) (Vi := [0, 1, 2, 3, 4, 5, 6, 7, 8, 9, 10, 11]) Fu ⟨rfl, rfl, rfl, by decide +kernel, rfl, by decide +kernel, by decide +kernel⟩ (by decide +kernel) rfl ?_
  rintro X F want ds R c hsc ⟨q, a0, b0, z0, m, f, rfl, rfl, hm, hf, hs0, rfl⟩ hl hF
  show SL X F _ [some _, some _, some _, none, none, none, none, none, none, none, none, none, none] _ _ _
  refine sl_cons (ss_asg (vs := [3, 4]) ?_ (hw := swC (y := "_law_found") (.tail _ (.head _)) (by rw [hsc]; decide)))
  refine ee_tup ?_
  refine ea_cons ?_
  refine ee_call c (i := 0) f__law_draw (by decide) rfl ?_
  refine ea_cons ?_
  refine ee_var c (i := 0) rfl rfl rfl ?_
  refine ea_cons ?_
  refine ee_int ?_
  refine ea_nil ?_
  refine ⟨_, _, _, .wr (by repeat (first | exact OutA.here | apply OutA.there)) (.nil _), ⟨q, _, _, _, _, rfl, rfl, by decide, by decide, hs0, rfl⟩, rfl, ?_⟩
  rintro _ _ ⟨r1, a1, b1, z1, rfl, hr1, hq1, rfl, hs1⟩
  refine ea_cons ?_
  refine ee_lst ?_
  refine ea_nil ?_
  refine ⟨Nat.le_of_ble_eq_true rfl, fun p1 => ?_⟩
  refine ea_nil ?_
  refine ⟨Nat.le_of_ble_eq_true rfl, ?_⟩
  refine eg_tup c (n := 2) ?_ rfl
  refine egs_cons ?_
  refine eg_name c (i := 3) rfl rfl (by decide) (.there (.there (.there .here))) ?_
  refine egs_cons ?_
  refine eg_name c (i := 4) rfl rfl (by decide) (.there (.there (.there (.there .here)))) ?_
  refine egs_nil ?_
  refine sl_cons (ss_asg (vs := [5, 6, 7]) ?_ (hw := swC (y := "_law_times") (.tail _ (.tail _ (.head _))) (by rw [hsc]; decide)))
  refine ee_tup ?_
  refine ea_cons ?_
  refine ee_call c (i := 0) f__law_draw (by decide) rfl ?_
  refine ea_cons ?_
  refine ee_var c (i := 0) rfl rfl rfl ?_
  refine ea_cons ?_
  refine ee_int ?_
  refine ea_nil ?_
  refine ⟨_, _, _, .wr (by repeat (first | exact OutA.here | apply OutA.there)) (.nil _), ⟨q, _, _, _, _, rfl, rfl, by decide, by decide, hs1, rfl⟩, rfl, ?_⟩
  rintro _ _ ⟨r2, a2, b2, z2, rfl, hr2, hq2, rfl, hs2⟩
  obtain ⟨kk, rfl⟩ := fin8_of hr2 hq2
  refine ea_cons ?_
  refine ee_call c (i := 1) f__law_square (by decide) rfl ?_
  refine ea_cons ?_
  refine ee_var c (i := 0) rfl rfl rfl ?_
  refine ea_cons ?_
  refine ee_var c (i := 2) rfl rfl rfl ?_
  refine ea_nil ?_
  refine ⟨_, _, _, .wr (by repeat (first | exact OutA.here | apply OutA.there)) (.nil _), ⟨q, _, _, _, f, rfl, rfl, hf, hs2, rfl⟩, rfl, ?_⟩
  rintro _ _ ⟨v3, a3, b3, z3, rfl, hv3, rfl, hs3⟩
  refine ea_cons ?_
  refine ee_add ?_
  refine ee_int ?_
  refine ee_call c (i := 0) f__law_draw (by decide) rfl ?_
  refine ea_cons ?_
  refine ee_var c (i := 0) rfl rfl rfl ?_
  refine ea_cons ?_
  refine ee_int ?_
  refine ea_nil ?_
  refine ⟨_, _, _, .wr (by repeat (first | exact OutA.here | apply OutA.there)) (.nil _), ⟨q, _, _, _, _, rfl, rfl, by decide, by decide, hs3, rfl⟩, rfl, ?_⟩
  rintro _ _ ⟨r4, a4, b4, z4, rfl, hr4, hq4, rfl, hs4⟩
  refine ⟨_, _, rfl, rfl, ?_⟩
  refine ea_nil ?_
  refine ⟨Nat.le_of_ble_eq_true rfl, ?_⟩
  refine eg_tup c (n := 3) ?_ rfl
  refine egs_cons ?_
  refine eg_name c (i := 5) rfl rfl (by decide) (.there (.there (.there (.there (.there .here))))) ?_
  refine egs_cons ?_
  refine eg_name c (i := 6) rfl rfl (by decide) (.there (.there (.there (.there (.there (.there .here)))))) ?_
  refine egs_cons ?_
  refine eg_name c (i := 7) rfl rfl (by decide) (.there (.there (.there (.there (.there (.there (.there .here))))))) ?_
  refine egs_nil ?_
  refine sl_cons (ss_for c (vs := [8]) ?_)
  refine ei_rng c (j := 2) rfl mb.range ?_
  refine ee_call c (i := 0) f__law_draw (by decide) rfl ?_
  refine ea_cons ?_
  refine ee_var c (i := 0) rfl rfl rfl ?_
  refine ea_cons ?_
  refine ee_add ?_
  refine ee_var c (i := 1) rfl rfl rfl ?_
  refine ee_int ?_
  refine ⟨_, _, rfl, rfl, ?_⟩
  refine ea_nil ?_
  refine ⟨_, _, _, .wr (by repeat (first | exact OutA.here | apply OutA.there)) (.nil _), ⟨q, _, _, _, _, rfl, rfl, by omega, by omega, hs4, rfl⟩, rfl, ?_⟩
  rintro _ _ ⟨r5, a5, b5, z5, rfl, hr5, hq5, rfl, hs5⟩
  refine ⟨_, rfl, by omega, by omega, ?_⟩
  refine ⟨fun i en st => ∃ (gs : List Sy) (a b z : Int) (o8 o9 o10 o11 : Option D), en = [some (.ref q), some (.int (m : Nat)), some (.int (f : Nat)), some (.int r1), some (.ref p1), some (dK kk), some (dV v3), some (.int (1 + r4)), o8, o9, o10, o11, none] ∧ st = [⟨q, true, sO a b z⟩, ⟨p1, true, .lst (gs.map dS)⟩] ∧ gs.length = i ∧ (∀ g ∈ gs, Ab (f + 4) g.2) ∧ SRC a b, ⟨[], _, _, _, none, none, none, none, rfl, rfl, rfl, fun g hg => (nomatch hg), hs5⟩, fun _ _ _ _ _ => trivial, ?_, ?_⟩
  · rintro i d en2 st2 hd ⟨gs, a, b, z, o8, o9, o10, o11, rfl, rfl, hgl, hgb, hs⟩
    obtain ⟨hi, rfl⟩ := rangeGet hd
    have hi6 : i < m := by omega
    refine eg_name c (i := 8) rfl rfl (by decide) (.there (.there (.there (.there (.there (.there (.there (.there .here)))))))) ?_
    refine sl_cons (ss_expr ?_)
    refine ee_append ?_
    refine ee_var c (i := 4) rfl rfl rfl ?_
    refine ⟨_, _, rfl, (by repeat (first | exact Has.here | apply Has.there)), ?_⟩
    refine ee_call c (i := 3) f__law_symmetry (by decide) rfl ?_
    refine ea_cons ?_
    refine ee_var c (i := 0) rfl rfl rfl ?_
    refine ea_cons ?_
    refine ee_var c (i := 2) rfl rfl rfl ?_
    refine ea_nil ?_
    refine ⟨_, _, _, .wr (by repeat (first | exact OutA.here | apply OutA.there)) (.nil _), ⟨q, _, _, _, f, rfl, rfl, hf, hs, rfl⟩, rfl, ?_⟩
    rintro _ _ ⟨s0, a6, b6, z6, rfl, hab0, rfl, hs6⟩
    refine ⟨_, _, (by repeat (first | exact Put.here | apply Put.there)), by rw [List.length_map]; have := sizeLine_big; omega, ?_⟩
    refine sl_cons (ss_mono (N' := fun en st => ∃ (s : Sy) (a b z : Int) (o9 o10 o11 : Option D), en = [some (.ref q), some (.int (m : Nat)), some (.int (f : Nat)), some (.int r1), some (.ref p1), some (dK kk), some (dV v3), some (.int (1 + r4)), some (.int (i : Nat)), o9, o10, o11, none] ∧ st = [⟨q, true, sO a b z⟩, ⟨p1, true, .lst (gs.map dS ++ [dS s])⟩] ∧ Ab (f) s.2 ∧ SRC a b) (ss_if ?_) ?_)
    · refine et_eqI ?_
      refine ee_var c (i := 3) rfl rfl rfl ?_
      refine ee_int ?_
      refine ⟨_, _, rfl, rfl, ?_⟩
      refine ⟨fun h2 => ?_, fun h2 => ?_⟩
      · refine isT ?_
        refine sl_cons (ss_set c (i := 9) rfl rfl ?_)
        refine ee_sub ?_
        refine ee_call c (i := 0) f__law_draw (by decide) rfl ?_
        refine ea_cons ?_
        refine ee_var c (i := 0) rfl rfl rfl ?_
        refine ea_cons ?_
        refine ee_int ?_
        refine ea_nil ?_
        refine ⟨_, _, _, .wr (by repeat (first | exact OutA.here | apply OutA.there)) (.nil _), ⟨q, _, _, _, _, rfl, rfl, by decide, by decide, hs6, rfl⟩, rfl, ?_⟩
        rintro _ _ ⟨r7, a7, b7, z7, rfl, hr7, hq7, rfl, hs7⟩
        refine ee_int ?_
        refine ⟨_, _, rfl, rfl, ?_⟩
        refine ⟨_, (.there (.there (.there (.there (.there (.there (.there (.there (.there .here))))))))), ?_⟩
        refine sl_cons (ss_par2 c (i := 10) (j := 11) rfl rfl rfl rfl (by rw [hsc]; rfl) (by rw [hsc]; rfl) ?_)
        refine ea_cons ?_
        refine ee_mulO ?_
        refine ee_var c (i := 9) rfl rfl rfl ?_
        refine ee_ixT ?_
        refine ee_var c (i := 6) rfl rfl rfl ?_
        refine ee_int ?_
        refine ⟨_, _, _, rfl, rfl, rfl, ?_⟩
        refine ⟨_, _, rfl, rfl, mulS1 (by omega), ?_⟩
        refine ea_cons ?_
        refine ee_mulO ?_
        refine ee_var c (i := 9) rfl rfl rfl ?_
        refine ee_ixT ?_
        refine ee_var c (i := 6) rfl rfl rfl ?_
        refine ee_int ?_
        refine ⟨_, _, _, rfl, rfl, rfl, ?_⟩
        refine ⟨_, _, rfl, rfl, mulS1 (by omega), ?_⟩
        refine ea_nil ?_
        refine ⟨_, _, _, _, rfl, (.there (.there (.there (.there (.there (.there (.there (.there (.there (.there .here)))))))))), (.there (.there (.there (.there (.there (.there (.there (.there (.there (.there (.there .here))))))))))), ?_⟩
        refine sl_cons (ss_asg (vs := []) ?_ )
        refine ee_tup ?_
        refine ea_cons ?_
        refine ee_int ?_
        refine ea_cons ?_
        refine ee_max c (i := 4) rfl mb.max ?_
        refine ea_cons ?_
        refine ee_sub ?_
        refine ee_int ?_
        refine ee_var c (i := 2) rfl rfl rfl ?_
        refine ⟨_, _, rfl, rfl, ?_⟩
        refine ea_cons ?_
        refine ee_min c (i := 5) rfl mb.min ?_
        refine ea_cons ?_
        refine ee_var c (i := 2) rfl rfl rfl ?_
        refine ea_cons ?_
        refine ee_var c (i := 10) rfl rfl rfl ?_
        refine ea_nil ?_
        refine ⟨_, _, rfl, ?_⟩
        refine ea_nil ?_
        refine ⟨_, _, rfl, ?_⟩
        refine ea_cons ?_
        refine ee_max c (i := 4) rfl mb.max ?_
        refine ea_cons ?_
        refine ee_sub ?_
        refine ee_int ?_
        refine ee_var c (i := 2) rfl rfl rfl ?_
        refine ⟨_, _, rfl, rfl, ?_⟩
        refine ea_cons ?_
        refine ee_min c (i := 5) rfl mb.min ?_
        refine ea_cons ?_
        refine ee_var c (i := 2) rfl rfl rfl ?_
        refine ea_cons ?_
        refine ee_var c (i := 11) rfl rfl rfl ?_
        refine ea_nil ?_
        refine ⟨_, _, rfl, ?_⟩
        refine ea_nil ?_
        refine ⟨_, _, rfl, ?_⟩
        refine ea_nil ?_
        refine ⟨Nat.le_of_ble_eq_true rfl, ?_⟩
        refine eg_setL ?_
        refine ee_var c (i := 4) rfl rfl rfl ?_
        refine ee_neg ?_
        refine ee_int ?_
        refine ⟨_, rfl, ?_⟩
        refine ⟨_, _, _, (gs.map dS).length, _, rfl, rfl, ixN_last _ _, (by repeat (first | exact Put.here | apply Put.there)), ?_⟩
        rw [set_last]
        refine sl_nil ?_
        exact ⟨(0, (max (0 - (f : Int)) (min f ((r7 - 2) * v3.1)), max (0 - (f : Int)) (min f ((r7 - 2) * v3.2)))), _, _, _, _, _, _, rfl, rfl, ⟨by show (max (0 - (f : Int)) (min f ((r7 - 2) * v3.1))).natAbs ≤ f; omega, by show (max (0 - (f : Int)) (min f ((r7 - 2) * v3.2))).natAbs ≤ f; omega⟩, hs7⟩
      · refine isF ?_
        refine sl_nil ?_
        exact ⟨s0, _, _, _, _, _, _, rfl, rfl, hab0, hs6⟩
    · rintro _ _ ⟨s, a, b, z, o9, o10, o11, rfl, rfl, hab, hs⟩
      refine sl_cons (ss_mono (N' := fun en st => ∃ (s : Sy) (a b z : Int) (o9 o10 o11 : Option D), en = [some (.ref q), some (.int (m : Nat)), some (.int (f : Nat)), some (.int r1), some (.ref p1), some (dK kk), some (dV v3), some (.int (1 + r4)), some (.int (i : Nat)), o9, o10, o11, none] ∧ st = [⟨q, true, sO a b z⟩, ⟨p1, true, .lst (gs.map dS ++ [dS s])⟩] ∧ Ab (f) s.2 ∧ SRC a b) (ss_if ?_) ?_)
      · refine et_eqI ?_
        refine ee_var c (i := 3) rfl rfl rfl ?_
        refine ee_int ?_
        refine ⟨_, _, rfl, rfl, ?_⟩
        refine ⟨fun h3 => ?_, fun h3 => ?_⟩
        · refine isT ?_
          refine sl_cons (ss_asg (vs := []) ?_ )
          refine ee_catT ?_
          refine ee_tup ?_
          refine ea_cons ?_
          refine ee_var c (i := 5) rfl rfl rfl ?_
          refine ea_nil ?_
          refine ⟨Nat.le_of_ble_eq_true rfl, ?_⟩
          refine ee_from1 ?_
          refine ee_ixL ?_
          refine ee_var c (i := 4) rfl rfl rfl ?_
          refine ee_neg ?_
          refine ee_int ?_
          refine ⟨_, rfl, ?_⟩
          refine ⟨_, _, _, dS s, rfl, (by repeat (first | exact Has.here | apply Has.there)), rfl, atI_last _ _, ?_⟩
          refine ⟨_, rfl, ?_⟩
          refine ⟨_, _, rfl, rfl, Nat.le_of_ble_eq_true rfl, ?_⟩
          refine eg_setL ?_
          refine ee_var c (i := 4) rfl rfl rfl ?_
          refine ee_neg ?_
          refine ee_int ?_
          refine ⟨_, rfl, ?_⟩
          refine ⟨_, _, _, (gs.map dS).length, _, rfl, rfl, ixN_last _ _, (by repeat (first | exact Put.here | apply Put.there)), ?_⟩
          rw [set_last]
          refine sl_nil ?_
          exact ⟨(kk, s.2), _, _, _, _, _, _, rfl, rfl, hab, hs⟩
        · refine isF ?_
          refine sl_nil ?_
          exact ⟨s, _, _, _, _, _, _, rfl, rfl, hab, hs⟩
      · rintro _ _ ⟨s, a, b, z, o9, o10, o11, rfl, rfl, hab, hs⟩
        refine sl_cons (ss_mono (N' := fun en st => ∃ (s : Sy) (a b z : Int) (o9 o10 o11 : Option D), en = [some (.ref q), some (.int (m : Nat)), some (.int (f : Nat)), some (.int r1), some (.ref p1), some (dK kk), some (dV v3), some (.int (1 + r4)), some (.int (i : Nat)), o9, o10, o11, none] ∧ st = [⟨q, true, sO a b z⟩, ⟨p1, true, .lst (gs.map dS ++ [dS s])⟩] ∧ Ab (f) s.2 ∧ SRC a b) (ss_if ?_) ?_)
        · refine et_eqI ?_
          refine ee_var c (i := 3) rfl rfl rfl ?_
          refine ee_int ?_
          refine ⟨_, _, rfl, rfl, ?_⟩
          refine ⟨fun h4 => ?_, fun h4 => ?_⟩
          · refine isT ?_
            refine sl_cons (ss_asg (vs := []) ?_ )
            refine ee_catT ?_
            refine ee_to1 ?_
            refine ee_ixL ?_
            refine ee_var c (i := 4) rfl rfl rfl ?_
            refine ee_neg ?_
            refine ee_int ?_
            refine ⟨_, rfl, ?_⟩
            refine ⟨_, _, _, dS s, rfl, (by repeat (first | exact Has.here | apply Has.there)), rfl, atI_last _ _, ?_⟩
            refine ⟨_, rfl, ?_⟩
            refine ee_tup ?_
            refine ea_cons ?_
            refine ee_int ?_
            refine ea_cons ?_
            refine ee_int ?_
            refine ea_nil ?_
            refine ⟨Nat.le_of_ble_eq_true rfl, ?_⟩
            refine ⟨_, _, rfl, rfl, Nat.le_of_ble_eq_true rfl, ?_⟩
            refine eg_setL ?_
            refine ee_var c (i := 4) rfl rfl rfl ?_
            refine ee_neg ?_
            refine ee_int ?_
            refine ⟨_, rfl, ?_⟩
            refine ⟨_, _, _, (gs.map dS).length, _, rfl, rfl, ixN_last _ _, (by repeat (first | exact Put.here | apply Put.there)), ?_⟩
            rw [set_last]
            refine sl_nil ?_
            exact ⟨(s.1, (0, 0)), _, _, _, _, _, _, rfl, rfl, ⟨Nat.zero_le _, Nat.zero_le _⟩, hs⟩
          · refine isF ?_
            refine sl_nil ?_
            exact ⟨s, _, _, _, _, _, _, rfl, rfl, hab, hs⟩
        · rintro _ _ ⟨s, a, b, z, o9, o10, o11, rfl, rfl, hab, hs⟩
          refine sl_cons (ss_mono (N' := fun en st => ∃ (s : Sy) (a b z : Int) (o9 o10 o11 : Option D), en = [some (.ref q), some (.int (m : Nat)), some (.int (f : Nat)), some (.int r1), some (.ref p1), some (dK kk), some (dV v3), some (.int (1 + r4)), some (.int (i : Nat)), o9, o10, o11, none] ∧ st = [⟨q, true, sO a b z⟩, ⟨p1, true, .lst (gs.map dS ++ [dS s])⟩] ∧ Ab (f + 4) s.2 ∧ SRC a b) (ss_if ?_) ?_)
          · refine et_eqI ?_
            refine ee_var c (i := 3) rfl rfl rfl ?_
            refine ee_int ?_
            refine ⟨_, _, rfl, rfl, ?_⟩
            refine ⟨fun h5 => ?_, fun h5 => ?_⟩
            · refine isT ?_
              refine sl_cons (ss_asg (vs := []) ?_ )
              refine ee_catT ?_
              refine ee_to1 ?_
              refine ee_ixL ?_
              refine ee_var c (i := 4) rfl rfl rfl ?_
              refine ee_neg ?_
              refine ee_int ?_
              refine ⟨_, rfl, ?_⟩
              refine ⟨_, _, _, dS s, rfl, (by repeat (first | exact Has.here | apply Has.there)), rfl, atI_last _ _, ?_⟩
              refine ⟨_, rfl, ?_⟩
              refine ee_tupleL c (i := 6) rfl mb.tuple ?_
              refine ee_lc c [("_law_one", 12)] (G' := []) (V' := [7, 12]) (by rw [hsc]; decide +kernel) (by rw [hsc]; decide +kernel) ?_
              refine ei_tup ?_
              refine ee_from1 ?_
              refine ee_ixL ?_
              refine ee_var c (i := 4) rfl rfl rfl ?_
              refine ee_neg ?_
              refine ee_int ?_
              refine ⟨_, rfl, ?_⟩
              refine ⟨_, _, _, dS s, rfl, (by repeat (first | exact Has.here | apply Has.there)), rfl, atI_last _ _, ?_⟩
              refine ⟨_, rfl, ?_⟩
              refine ⟨_, rfl, ?_⟩
              intro p6
              refine ⟨fun i st => st = [⟨p6, true, .lst ((([s.2.1, s.2.2].take i).map fun n => n.fdiv (1 + r4) * (1 + r4)).map D.int)⟩, ⟨q, true, sO a b z⟩, ⟨p1, true, .lst (gs.map dS ++ [dS s])⟩], rfl, fun _ _ _ _ => trivial, ?_, ?_⟩
              · rintro i d st2 hd rfl Xp6 hX
                obtain ⟨n, hn, rfl⟩ := getMap (xs := [s.2.1, s.2.2]) (f := D.int) hd
                refine eg_name hX.2 (i := 12) rfl rfl (by decide) (.there (.there (.there (.there (.there (.there (.there (.there (.there (.there (.there (.there .here)))))))))))) ?_
                intro Xp6 hX
                refine ee_mulO ?_
                refine ee_fdiv ?_
                refine ee_var hX.2 (i := 12) rfl rfl rfl ?_
                refine ee_var hX.2 (i := 7) rfl rfl rfl ?_
                refine ⟨_, _, rfl, rfl, ⟨by omega, by have := (show Bt 3 (1 + r4) by unfold Bt; omega).log; omega⟩, ?_⟩
                refine ee_var hX.2 (i := 7) rfl rfl rfl ?_
                refine ⟨_, _, rfl, rfl, mulS2 (by omega), ?_⟩
                refine ⟨_, _, .here, by rw [List.map_map]; exact lenTake hn (Nat.le_of_ble_eq_true rfl), ?_⟩
                show _ = _
                rw [takeS hn, List.map_append, List.map_append]; rfl
              · rintro st2 rfl
                refine ⟨_, _, rfl, (by repeat (first | exact Has.here | apply Has.there)), ?_⟩
                refine ⟨_, _, rfl, rfl, Nat.le_of_ble_eq_true rfl, ?_⟩
                refine eg_setL ?_
                refine ee_var c (i := 4) rfl rfl rfl ?_
                refine ee_neg ?_
                refine ee_int ?_
                refine ⟨_, rfl, ?_⟩
                refine ⟨_, _, _, (gs.map dS).length, _, rfl, rfl, ixN_last _ _, (by repeat (first | exact Put.here | apply Put.there)), ?_⟩
                rw [set_last]
                refine sl_st (.cons _ (.refl _)) ?_
                refine sl_nil ?_
                exact ⟨(s.1, (s.2.1.fdiv (1 + r4) * (1 + r4), s.2.2.fdiv (1 + r4) * (1 + r4))), _, _, _, _, _, _, rfl, rfl, ⟨fl_mul_bd hab.1 (by omega) (by omega), fl_mul_bd hab.2 (by omega) (by omega)⟩, hs⟩
            · refine isF ?_
              refine sl_nil ?_
              exact ⟨s, _, _, _, _, _, _, rfl, rfl, hab.mono (by omega), hs⟩
          · rintro _ _ ⟨s, a, b, z, o9, o10, o11, rfl, rfl, hab, hs⟩
            refine sl_nil ?_
            exact ⟨gs ++ [s], _, _, _, _, _, _, _, rfl, by rw [List.map_append]; rfl, by simp [hgl], fun g hg => by rcases List.mem_append.mp hg with hg | hg; exact hgb g hg; simp at hg; subst hg; exact hab, hs⟩
  · rintro en2 st2 ⟨gs, a, b, z, o8, o9, o10, o11, rfl, rfl, hgl, hgb, hs⟩
    rw [List.length_map, List.length_range] at hgl
    have hgl6 : gs.length ≤ m := by omega
    refine sl_cons (ss_set c (i := 4) rfl rfl ?_ (hs := sw_cell (by rw [hsc]; rfl)))
    refine ee_lc c [("_law_kind", 5), ("_law_x", 10), ("_law_y", 11)] (G' := ["max"]) (V' := [5, 10, 11, 2]) (by rw [hsc]; decide +kernel) (by rw [hsc]; decide +kernel) ?_
    refine ei_lst ?_
    refine ee_var c (i := 4) rfl rfl rfl ?_
    refine ⟨_, _, rfl, (by repeat (first | exact Has.here | apply Has.there)), ?_⟩
    intro p7
    refine ⟨fun i st => st = [⟨p7, true, .lst (((gs.take i).map (clip f)).map dS)⟩, ⟨q, true, sO a b z⟩, ⟨p1, true, .lst (gs.map dS)⟩], rfl, fun _ _ _ e => by rw [e]; exact .there (.there .here), ?_, ?_⟩
    · rintro i d st2 hd rfl Xp7 hX
      obtain ⟨g, hg, rfl⟩ := getMap hd
      refine eg_tup hX.2 (n := 3) ?_ rfl
      refine egs_cons ?_
      refine eg_name hX.2 (i := 5) rfl rfl (by decide) (.there (.there (.there (.there (.there .here))))) ?_
      refine egs_cons ?_
      refine eg_name hX.2 (i := 10) rfl rfl (by decide) (.there (.there (.there (.there (.there (.there (.there (.there (.there (.there .here)))))))))) ?_
      refine egs_cons ?_
      refine eg_name hX.2 (i := 11) rfl rfl (by decide) (.there (.there (.there (.there (.there (.there (.there (.there (.there (.there (.there .here))))))))))) ?_
      refine egs_nil ?_
      intro Xp7 hX
      refine ee_tup ?_
      refine ea_cons ?_
      refine ee_var hX.2 (i := 5) rfl rfl rfl ?_
      refine ea_cons ?_
      refine ee_max hX.2 (i := 0) rfl mb.max ?_
      refine ea_cons ?_
      refine ee_sub ?_
      refine ee_int ?_
      refine ee_var hX.2 (i := 2) rfl rfl rfl ?_
      refine ⟨_, _, rfl, rfl, ?_⟩
      refine ea_cons ?_
      refine ee_var hX.2 (i := 10) rfl rfl rfl ?_
      refine ea_nil ?_
      refine ⟨_, _, rfl, ?_⟩
      refine ea_cons ?_
      refine ee_max hX.2 (i := 0) rfl mb.max ?_
      refine ea_cons ?_
      refine ee_sub ?_
      refine ee_int ?_
      refine ee_var hX.2 (i := 2) rfl rfl rfl ?_
      refine ⟨_, _, rfl, rfl, ?_⟩
      refine ea_cons ?_
      refine ee_var hX.2 (i := 11) rfl rfl rfl ?_
      refine ea_nil ?_
      refine ⟨_, _, rfl, ?_⟩
      refine ea_nil ?_
      refine ⟨Nat.le_of_ble_eq_true rfl, ?_⟩
      refine ⟨_, _, .here, by rw [List.map_map]; exact lenTake hg (by have := sizeLine_big; omega), ?_⟩
      show _ = _
      rw [takeS hg, List.map_append, List.map_append]; rfl
    · rintro st2 rfl
      rw [List.length_map, List.take_length]
      refine ⟨_, (.there (.there (.there (.there .here)))), ?_⟩
      refine sl_st (.cons_cons _ (.cons_cons _ (List.nil_sublist _))) ?_
      have hcb : ∀ g ∈ gs.map (clip f), Ab (f + 4) g.2 := fun g hg => by
        obtain ⟨x, hx, rfl⟩ := List.mem_map.mp hg
        exact clip_ab (hgb x hx)
      have hcl : (gs.map (clip f)).length = gs.length := List.length_map _
      generalize gs.map (clip f) = cs at *
      refine sl_cons (ss_mono (N' := fun en st => ∃ (p2 : Addr) (ht : List Sy) (a b z : Int), en = [some (.ref q), some (.int (m : Nat)), some (.int (f : Nat)), some (.int r1), some (.ref p2), some (dK kk), some (dV v3), some (.int (1 + r4)), o8, o9, o10, o11, none] ∧ st = [⟨p2, true, .lst (ht.map dS)⟩, ⟨q, true, sO a b z⟩] ∧ ht.length = gs.length ∧ (∀ g ∈ ht, Ab (f + 4) g.2) ∧ SRC a b) (ss_if ?_) ?_)
      · refine ew_pt ?_
        refine ew_and ?_
        refine et_neNil c ?_
        refine ee_var c (i := 4) rfl rfl rfl ?_
        refine ⟨_, _, rfl, .here, by first | rfl | exact pls_dSl _ | exact pls_dVl _ | exact pls_ints _ | exact pls_dKl _, ?_⟩
        refine ⟨fun h8 => ?_, fun h8 => ?_⟩
        · refine isT ?_
          refine ew_and1 ?_
          refine et_eqI ?_
          refine ee_var c (i := 3) rfl rfl rfl ?_
          refine ee_int ?_
          refine ⟨_, _, rfl, rfl, ?_⟩
          refine ⟨fun h9 => ?_, fun h9 => ?_⟩
          · refine isT ?_
            refine sl_cons (ss_set c (i := 4) rfl rfl ?_)
            refine ee_catL ?_
            refine ee_to1L ?_
            refine ee_var c (i := 4) rfl rfl rfl ?_
            refine ⟨_, _, rfl, (by repeat (first | exact Has.here | apply Has.there)), fun p10 => ?_⟩
            rw [← List.map_take]
            refine ee_lc c [("_law_one", 12)] (G' := ["_law_choose"]) (V' := [0, 4, 12]) (by rw [hsc]; decide +kernel) (by rw [hsc]; decide +kernel) ?_
            refine ei_lst ?_
            refine ee_from1L ?_
            refine ee_var c (i := 4) rfl rfl rfl ?_
            refine ⟨_, _, rfl, (by repeat (first | exact Has.here | apply Has.there)), fun p11 => ?_⟩
            rw [← List.map_drop]
            refine ⟨_, _, rfl, (by repeat (first | exact Has.here | apply Has.there)), ?_⟩
            intro p12
            refine ⟨fun i st => ∃ (ht : List Sy) (a b z : Int), st = [⟨p12, true, .lst (ht.map dS)⟩, ⟨p11, true, .lst ((cs.drop 1).map dS)⟩, ⟨p10, true, .lst ((cs.take 1).map dS)⟩, ⟨p7, true, .lst (cs.map dS)⟩, ⟨q, true, sO a b z⟩] ∧ ht.length = i ∧ (∀ g ∈ ht, Ab (f + 4) g.2) ∧ SRC a b, ⟨[], _, _, _, rfl, rfl, fun g hg => (nomatch hg), hs⟩, fun _ _ _ ⟨_, _, _, _, e, _⟩ => by rw [e]; exact .there .here, ?_, ?_⟩
            · rintro i d st2 hd ⟨ht, a, b, z, rfl, htl, htb, hs⟩ Xp12 hX
              have hil := getLt hd
              rw [List.length_map, List.length_drop] at hil
              have hcne : cs.map dS ≠ [] := by
                intro e
                rw [List.map_eq_nil_iff] at e
                rw [e] at hil; simp at hil
              refine eg_name hX.2 (i := 12) rfl rfl (by decide) (.there (.there (.there (.there (.there (.there (.there (.there (.there (.there (.there (.there .here)))))))))))) ?_
              intro Xp12 hX
              refine ee_pmo ?_
              refine ee_call hX.2 (i := 0) f__law_choose (by decide) rfl ?_
              refine ea_cons ?_
              refine ee_var hX.2 (i := 0) rfl rfl rfl ?_
              refine ea_cons ?_
              refine ee_var hX.2 (i := 4) rfl rfl rfl ?_
              refine ea_nil ?_
              refine ⟨_, _, _, .wr (by repeat (first | exact OutA.here | apply OutA.there)) (.rd (by repeat (first | exact OutA.here | apply OutA.there)) (.nil _)), ⟨q, _, _, _, _, .inr ⟨_, rfl, rfl⟩, hcne, by rw [List.length_map]; omega, hs, rfl⟩, rfl, ?_⟩
              rintro d8 _ ⟨hd8, a8, b8, z8, rfl, hs8⟩
              obtain ⟨g8, hgm8, rfl⟩ := List.mem_map.mp hd8
              refine ⟨_, ((List.perm_append_comm (l₁ := [_, _]) (l₂ := [_, _, _])).trans (.cons _ (.cons _ (.cons _ (.swap _ _ _))))), ?_⟩
              refine ⟨_, _, .here, by rw [List.length_map]; have := sizeLine_big; omega, ?_⟩
              exact ⟨ht ++ [g8], _, _, _, by rw [List.map_append]; rfl, by simp [htl], fun g hg => by rcases List.mem_append.mp hg with hg | hg; exact htb g hg; simp at hg; subst hg; exact hcb _ hgm8, hs8⟩
            · rintro st2 ⟨ht, a, b, z, rfl, htl, htb, hs⟩
              rw [List.length_map, List.length_drop] at htl
              refine ⟨_, _, _, _, _, _, rfl, rfl, (by repeat (first | exact Put.here | apply Put.there)), (by repeat (first | exact Put.here | apply Put.there)), by rw [List.length_map, List.length_map, List.length_take]; have := sizeLine_big; omega, fun PQ => ?_⟩
              rw [← List.map_append]
              refine ⟨_, (.there (.there (.there (.there .here)))), ?_⟩
              refine sl_st (.cons_cons _ (.cons _ (.cons _ (.cons _ (.cons _ (.refl _)))))) ?_
              refine sl_nil ?_
              have hne0 : cs ≠ [] := fun e => h8 (by rw [e]; rfl)
              have hpos : 0 < cs.length := List.length_pos_iff.mpr hne0
              exact ⟨_, cs.take 1 ++ ht, a, b, z, rfl, rfl, by rw [List.length_append, List.length_take]; omega, fun g hg => by rcases List.mem_append.mp hg with hg | hg; exact hcb g (List.mem_of_mem_take hg); exact htb g hg, hs⟩
          · refine isF ?_
            refine sl_nil ?_
            exact ⟨_, cs, a, b, z, rfl, rfl, hcl, hcb, hs⟩
        · refine isF ?_
          refine isF ?_
          refine sl_nil ?_
          exact ⟨_, cs, a, b, z, rfl, rfl, hcl, hcb, hs⟩
      · rintro _ _ ⟨p2, ht, a, b, z, rfl, rfl, htl, htb, hs⟩
        refine sl_cons (ss_ret ?_)
        refine ee_tupleL c (i := 6) rfl mb.tuple ?_
        refine ee_var c (i := 4) rfl rfl rfl ?_
        refine ⟨_, _, rfl, (by repeat (first | exact Has.here | apply Has.there)), ?_⟩
        exact ⟨_, .cons _ (.refl _), fun e he => by simp at he; rw [he], ht, a, b, z, rfl, by omega, htb, rfl, hs⟩
end G
end
section
set_option Elab.async false
set_option linter.all false
set_option maxRecDepth 100000
set_option maxHeartbeats 4000000
namespace G
open PySem L2
variable {P : Program} {w : World} {K : PySem.W.Frag} {mg : Str → Option Value} {base : Heap}
theorem ok__law_any_group {f : Addr} {fd : FuncData} (Fu : FunT K "_law_any_group" 92 [] f fd) (mb : MB mg) (mc : MC K mg) (f__law_tiling : Fn P w K mg base "_law_tiling" 4 2 [] W__law_tiling) (f__law_generators : Fn P w K mg base "_law_generators" 4 3 [] W__law_generators) (f__law_draw : Fn P w K mg base "_law_draw" 1 2 [] W__law_draw) : FnOk P w K mg base CX0 5 f fd ["_law_source_here"] (spW K 1 W_grp) := by
  refine fnok_mk (N := ["_law_source_here"]) (Gs := ["_law_draw", "_law_tiling", "_law_generators"]) (Vi := [0]) Fu ⟨rfl, rfl, rfl, by decide +kernel, rfl, by decide +kernel, by decide +kernel⟩ (by decide +kernel) rfl ?_
  rintro X F want ds R c hsc ⟨q, a0, b0, z0, rfl, rfl, hs0, rfl⟩ hl hF
  show SL X F _ [some _] _ _ _
  refine sl_cons (ss_ret ?_)
  refine ee_ifx ?_
  refine et_eqI ?_
  refine ee_call c (i := 0) f__law_draw (by decide) rfl ?_
  refine ea_cons ?_
  refine ee_var c (i := 0) rfl rfl rfl ?_
  refine ea_cons ?_
  refine ee_int ?_
  refine ea_nil ?_
  refine ⟨_, _, _, .wr (by repeat (first | exact OutA.here | apply OutA.there)) (.nil _), ⟨q, _, _, _, _, rfl, rfl, by decide, by decide, hs0, rfl⟩, rfl, ?_⟩
  rintro _ _ ⟨r1, a1, b1, z1, rfl, hr1, hq1, rfl, hs1⟩
  refine ee_int ?_
  refine ⟨_, _, rfl, rfl, ?_⟩
  refine ⟨fun h1 => ?_, fun h1 => ?_⟩
  · refine isT ?_
    refine ee_call c (i := 1) f__law_tiling (by decide) rfl ?_
    refine ea_cons ?_
    refine ee_var c (i := 0) rfl rfl rfl ?_
    refine ea_cons ?_
    refine ee_int ?_
    refine ea_nil ?_
    refine ⟨_, _, _, .wr (by repeat (first | exact OutA.here | apply OutA.there)) (.nil _), ⟨q, _, _, _, 4, rfl, rfl, by omega, hs1, rfl⟩, rfl, ?_⟩
    rintro _ _ ⟨gs, a2, b2, z2, rfl, hgl, hgb, rfl, hs2⟩
    exact ⟨_, .refl _, fun e he => by simp at he; rw [he], gs, a2, b2, z2, rfl, by omega, fun g hg => (hgb g hg).mono (by omega), rfl, hs2⟩
  · refine isF ?_
    refine ee_call c (i := 2) f__law_generators (by decide) rfl ?_
    refine ea_cons ?_
    refine ee_var c (i := 0) rfl rfl rfl ?_
    refine ea_cons ?_
    refine ee_int ?_
    refine ea_cons ?_
    refine ee_int ?_
    refine ea_nil ?_
    refine ⟨_, _, _, .wr (by repeat (first | exact OutA.here | apply OutA.there)) (.nil _), ⟨q, _, _, _, 4, 6, rfl, rfl, by omega, by omega, hs1, rfl⟩, rfl, ?_⟩
    rintro _ _ ⟨gs, a2, b2, z2, rfl, hgl, hgb, rfl, hs2⟩
    exact ⟨_, .refl _, fun e he => by simp at he; rw [he], gs, a2, b2, z2, rfl, by omega, fun g hg => (hgb g hg).mono (by omega), rfl, hs2⟩
def W__law_program_right : Spec := Pu fun ds p => ∃ (q : Addr) (n : Nat) (gs : List Sy) (a g : V2) (pr : List Ln), ds = [.ref q, dG gs, dV a, dV g, .tup [.str "program", dP pr]] ∧ n ≤ 6 ∧ GB n gs ∧ BV 4000 a ∧ BV 4000 g ∧ PB gs pr ∧ pr ≠ [] ∧ pr.length ≤ 300000 ∧ img (valOf gs pr) a = g ∧ InG gs (valOf gs pr) ∧ BV 6000 (valOf gs pr).2 ∧ p = fun d => d = .bl true
theorem ok__law_program_right {f : Addr} {fd : FuncData} (Fu : FunT K "_law_program_right" 96 [] f fd) (mb : MB mg) (mc : MC K mg) (f_run_program : Fn P w K mg base "run_program" 8 2 [] W_run_program) (f_is_connection : Fn P w K mg base "is_connection" 8 4 [] W_is_connection) (f_contains : Fn P w K mg base "contains" 6 2 [] W_contains) (f_image : Fn P w K mg base "image" 5 2 [] W_image) : FnOk P w K mg base CX0 9 f fd ["_law_source_here", "_law_generators_here", "_law_start", "_law_goal", "_law_actual"] (spW K 5 W__law_program_right) := by
  refine fnok_mk (N := ["_law_source_here", "_law_generators_here", "_law_start", "_law_goal", "_law_actual", "_law_found", "_law_again"]) (Gs := ["run_program", "contains", "image", "len", "is_connection"]) (Vi := [0, 1, 2, 3, 4, 5, 6]) Fu ⟨rfl, rfl, rfl, by decide +kernel, rfl, by decide +kernel, by decide +kernel⟩ (by decide +kernel) rfl ?_
  rintro X F want ds R c hsc ⟨rfl, p, ⟨q, n, gs, a, g, pr, rfl, hn, hg, ha, hgo, hP, hne, hpl, him, hin, hbv, rfl⟩, rfl⟩ hl hF
  show SL X F _ [some _, some _, some _, some _, some _, none, none] _ _ _
  refine sl_cons (ss_set c (i := 5) rfl rfl ?_)
  refine ee_pcall c (i := 0) f_run_program (by decide) rfl ?_
  refine ea_cons ?_
  refine ee_var c (i := 1) rfl rfl rfl ?_
  refine ea_cons ?_
  refine ee_ixT ?_
  refine ee_var c (i := 4) rfl rfl rfl ?_
  refine ee_int ?_
  refine ⟨_, _, _, rfl, rfl, rfl, ?_⟩
  refine ea_nil ?_
  refine ⟨_, ⟨gs, pr, rfl, hg.1, hP, hne, rfl⟩, rfl, ?_⟩
  rintro _ rfl
  refine ⟨_, (.there (.there (.there (.there (.there .here))))), ?_⟩
  refine sl_cons (ss_if ?_)
  refine ew_pt ?_
  refine ew_or ?_
  refine et_not ?_
  refine et_val ?_
  refine ee_pcall c (i := 1) f_contains (by decide) rfl ?_
  refine ea_cons ?_
  refine ee_var c (i := 1) rfl rfl rfl ?_
  refine ea_cons ?_
  refine ee_var c (i := 5) rfl rfl rfl ?_
  refine ea_nil ?_
  refine ⟨_, ⟨n, gs, _, rfl, by omega, hg, hbv.mono (by omega), rfl⟩, rfl, ?_⟩
  rintro _ ⟨b1, rfl, hb1⟩
  refine ⟨_, rfl, ?_⟩
  cases b1
  · exact absurd (hb1.mpr hin) (by decide)
  · refine isF ?_
    refine ew_or1 ?_
    refine et_neD c ?_
    refine ee_pcall c (i := 2) f_image (by decide) rfl ?_
    refine ea_cons ?_
    refine ee_var c (i := 5) rfl rfl rfl ?_
    refine ea_cons ?_
    refine ee_var c (i := 2) rfl rfl rfl ?_
    refine ea_nil ?_
    refine ⟨_, ⟨valOf gs pr, _, rfl, rfl⟩, rfl, ?_⟩
    rintro _ rfl
    refine ee_var c (i := 3) rfl rfl rfl ?_
    refine ⟨by first | exact pl_dV _ | exact pl_dS _ | exact pl_dVs _ | exact pl_dG _ | rfl, by first | exact pl_dV _ | exact pl_dS _ | exact pl_dVs _ | exact pl_dG _ | rfl, ?_⟩
    refine ⟨fun h2 => ?_, fun h2 => ?_⟩
    · exact absurd (congrArg dV him) h2
    · refine isF ?_
      refine sl_nil ?_
      refine sl_cons (ss_set c (i := 6) rfl rfl ?_)
      refine ee_tup ?_
      refine ea_cons ?_
      refine ee_str ?_
      refine ea_cons ?_
      refine ee_catT ?_
      refine ee_ixT ?_
      refine ee_var c (i := 4) rfl rfl rfl ?_
      refine ee_int ?_
      refine ⟨_, _, _, rfl, rfl, rfl, ?_⟩
      refine ee_tup ?_
      refine ea_cons ?_
      refine ee_tup ?_
      refine ea_cons ?_
      refine ee_tup ?_
      refine ea_cons ?_
      refine ee_sub ?_
      refine ee_add ?_
      refine ee_lenT c (i := 3) rfl mb.len ?_
      refine ee_var c (i := 1) rfl rfl rfl ?_
      refine ⟨_, rfl, ?_⟩
      refine ee_lenT c (i := 3) rfl mb.len ?_
      refine ee_ixT ?_
      refine ee_var c (i := 4) rfl rfl rfl ?_
      refine ee_int ?_
      refine ⟨_, _, _, rfl, rfl, rfl, ?_⟩
      refine ⟨_, rfl, ?_⟩
      refine ⟨_, _, rfl, rfl, ?_⟩
      refine ee_int ?_
      refine ⟨_, _, rfl, rfl, ?_⟩
      refine ea_cons ?_
      refine ee_int ?_
      refine ea_nil ?_
      refine ⟨Nat.le_of_ble_eq_true rfl, ?_⟩
      refine ea_nil ?_
      refine ⟨Nat.le_of_ble_eq_true rfl, ?_⟩
      refine ea_nil ?_
      refine ⟨Nat.le_of_ble_eq_true rfl, ?_⟩
      refine ⟨_, _, rfl, rfl, by rw [List.length_map]; have := sizeLine_big; simp; omega, ?_⟩
      refine ea_nil ?_
      refine ⟨Nat.le_of_ble_eq_true rfl, ?_⟩
      refine ⟨_, (.there (.there (.there (.there (.there (.there .here)))))), ?_⟩
      have hpos : 0 < pr.length := List.length_pos_iff.mpr hne
      have hrl := runP_len gs pr
      have hgd : (runP gs pr).getD (gs.length + pr.length - 1) one = valOf gs pr := by
        unfold valOf
        have hr0 : runP gs pr ≠ [] := fun e => by rw [e] at hrl; simp at hrl; omega
        rw [List.getLastD_eq_getLast?, List.getLast?_eq_getElem?, List.getD_eq_getElem?_getD, hrl]
      have hP2 : PB gs (pr ++ [[(gs.length + pr.length - 1, 2)]]) := hP.snoc (by omega) (by simp) (fun f hf => by
        simp at hf; subst hf
        exact ⟨by rw [hrl]; show gs.length + pr.length - 1 < _; omega, Bt.mono (n := 2) (show (2 : Int).natAbs < 2 ^ 2 by decide) (by omega), by show BV 100000 ((runP gs pr).getD (gs.length + pr.length - 1) one).2; rw [hgd]; exact hbv.mono (by omega)⟩)
      have hv2 : valOf gs (pr ++ [[(gs.length + pr.length - 1, 2)]]) = mul (valOf gs pr) (valOf gs pr) := by
        rw [valOf_snoc]
        show mul one (pw ((runP gs pr).getD (gs.length + pr.length - 1) one) 2) = _
        rw [hgd, one_mul, pw2]
      have hi2 : img (valOf gs (pr ++ [[(gs.length + pr.length - 1, 2)]])) a = img (valOf gs pr) g := by rw [hv2, img_mul, him]
      have e2 : D.tup (pr.map dL ++ [.tup [.tup [.int (((gs.map dS).length : Nat) + ((pr.map dL).length : Nat) - 1), .int 2]]]) = dP (pr ++ [[(gs.length + pr.length - 1, 2)]]) := by
        unfold dP
        rw [List.map_append, List.length_map, List.length_map]
        have e3 : ((gs.length : Nat) : Int) + (pr.length : Nat) - 1 = ((gs.length + pr.length - 1 : Nat) : Int) := by omega
        rw [e3]; rfl
      rw [e2]
      have hbg : BV 4000 a := ha
      have hbw : BV 6001 (img (valOf gs pr) g) := BV.img hbv hgo (by omega) (by omega)
      refine sl_cons (ss_if ?_)
      refine et_neB ?_
      refine ee_pcall c (i := 4) f_is_connection (by decide) rfl ?_
      refine ea_cons ?_
      refine ee_var c (i := 1) rfl rfl rfl ?_
      refine ea_cons ?_
      refine ee_var c (i := 2) rfl rfl rfl ?_
      refine ea_cons ?_
      refine ee_var c (i := 3) rfl rfl rfl ?_
      refine ea_cons ?_
      refine ee_var c (i := 6) rfl rfl rfl ?_
      refine ea_nil ?_
      refine ⟨_, ⟨n, gs, a, g, by omega, hg, .inl ⟨_, rfl, hP2, by simp, rfl⟩⟩, rfl, ?_⟩
      rintro _ ⟨b3, rfl, hb3⟩
      refine ee_eqD c ?_
      refine ee_pcall c (i := 2) f_image (by decide) rfl ?_
      refine ea_cons ?_
      refine ee_var c (i := 5) rfl rfl rfl ?_
      refine ea_cons ?_
      refine ee_var c (i := 3) rfl rfl rfl ?_
      refine ea_nil ?_
      refine ⟨_, ⟨valOf gs pr, _, rfl, rfl⟩, rfl, ?_⟩
      rintro _ rfl
      refine ee_var c (i := 3) rfl rfl rfl ?_
      refine ⟨by first | exact pl_dV _ | exact pl_dS _ | exact pl_dVs _ | exact pl_dG _ | rfl, by first | exact pl_dV _ | exact pl_dS _ | exact pl_dVs _ | exact pl_dG _ | rfl, ?_⟩
      intro b4 hb4
      refine ⟨_, _, rfl, rfl, ?_⟩
      refine ⟨fun h5 => ?_, fun h5 => ?_⟩
      · exact absurd (Bool.eq_iff_iff.mpr (by rw [hb3, hb4, hi2]; exact ⟨fun h => by rw [h], fun h => dV_inj h⟩)) h5
      · refine isF ?_
        refine sl_nil ?_
        refine sl_cons (ss_ret ?_)
        refine ee_isBV ?_
        refine ee_pcall c (i := 4) f_is_connection (by decide) rfl ?_
        refine ea_cons ?_
        refine ee_var c (i := 1) rfl rfl rfl ?_
        refine ea_cons ?_
        refine ee_var c (i := 2) rfl rfl rfl ?_
        refine ea_cons ?_
        refine ee_pcall c (i := 2) f_image (by decide) rfl ?_
        refine ea_cons ?_
        refine ee_var c (i := 5) rfl rfl rfl ?_
        refine ea_cons ?_
        refine ee_var c (i := 3) rfl rfl rfl ?_
        refine ea_nil ?_
        refine ⟨_, ⟨valOf gs pr, _, rfl, rfl⟩, rfl, ?_⟩
        rintro _ rfl
        refine ea_cons ?_
        refine ee_var c (i := 6) rfl rfl rfl ?_
        refine ea_nil ?_
        refine ⟨_, ⟨n, gs, a, _, by omega, hg, .inl ⟨_, rfl, hP2, by simp, rfl⟩⟩, rfl, ?_⟩
        rintro _ ⟨b6, rfl, hb6⟩
        refine ee_bl ?_
        refine ⟨_, _, rfl, rfl, ?_⟩
        intro b7 hb7
        obtain rfl : b7 = true := hb7.mpr (hb6.mpr hi2)
        exact .pure ⟨rfl, rfl⟩
def W__law_squares_right : Spec := fun want ds R => ∃ (q : Addr) (a b z : Int) (n : Nat) (gs : List Sy) (s g : V2) (sq : List V2), want = [⟨q, true, sO a b z⟩] ∧ ds = [.ref q, dG gs, dV s, dV g, .tup [.str "apart", dVs sq]] ∧ n ≤ 6 ∧ GB n gs ∧ (∀ g ∈ gs, Ab 10 g.2) ∧ BV 4000 s ∧ BV 4000 g ∧ BL 5000 sq ∧ sq.length < 64 ∧ OrbSq gs s sq ∧ ¬ Orb gs s g ∧ SRC a b ∧ R = fun d st => d = .bl true ∧ ∃ (a' b' z' : Int), st = [⟨q, true, sO a' b' z'⟩] ∧ SRC a' b'
theorem ok__law_squares_right {f : Addr} {fd : FuncData} (Fu : FunT K "_law_squares_right" 97 [] f fd) (mb : MB mg) (mc : MC K mg) (f_generators_of : Fn P w K mg base "generators_of" 8 1 [] W_generators_of) (f_describe : Fn P w K mg base "describe" 6 1 [] W_describe) (f_image : Fn P w K mg base "image" 5 2 [] W_image) (f_is_connection : Fn P w K mg base "is_connection" 8 4 [] W_is_connection) (f__law_word : Fn P w K mg base "_law_word" 4 3 [] W__law_word) : FnOk P w K mg base CX0 9 f fd ["_law_source_here", "_law_generators_here", "_law_start", "_law_goal", "_law_actual"] (spW K 5 W__law_squares_right) := by
  refine fnok_mk (N := ["_law_source_here", "_law_generators_here", "_law_start", "_law_goal", "_law_actual", "_law_others", "_law_lap", "_law_away", "_law_near"]) (Gs := ["generators_of", "describe", "range", "image", "_law_word", "is_connection"]) (Vi := [0, 1, 2, 3, 4, 5, 6, 7, 8]) Fu ⟨rfl, rfl, rfl, by decide +kernel, rfl, by decide +kernel, by decide +kernel⟩ (by decide +kernel) rfl ?_
  rintro X F want ds R c hsc ⟨q, a, b, z, n, gs, s, g, sq, rfl, rfl, hn, hg, hab, hbs, hbg, hsq, hsl, hO, hno, hs, rfl⟩ hl hF
  show SL X F _ [some _, some _, some _, some _, some _, none, none, none, none] _ _ _
  refine sl_cons (ss_set c (i := 5) rfl rfl ?_)
  refine ee_pcall c (i := 0) f_generators_of (by decide) rfl ?_
  refine ea_cons ?_
  refine ee_pcall c (i := 1) f_describe (by decide) rfl ?_
  refine ea_cons ?_
  refine ee_var c (i := 1) rfl rfl rfl ?_
  refine ea_nil ?_
  refine ⟨_, ⟨n, gs, rfl, by omega, hg, rfl⟩, rfl, ?_⟩
  rintro _ ⟨b2, ms, rfl, hD⟩
  refine ea_nil ?_
  refine ⟨_, ⟨n, gs, b2, ms, rfl, by omega, hD, rfl⟩, rfl, ?_⟩
  rintro _ ⟨hs2, rfl, hg2, hsame⟩
  refine ⟨_, (.there (.there (.there (.there (.there .here))))), ?_⟩
  refine sl_cons (ss_for c (vs := [6]) ?_)
  refine ei_rng c (j := 2) rfl mb.range ?_
  refine ee_int ?_
  refine ⟨_, rfl, by decide, by decide, ?_⟩
  refine ⟨fun i en st => ∃ (a b z : Int) (o7 o8 o9 : Option D), en = [some (.ref q), some (dG gs), some (dV s), some (dV g), some (.tup [.str "apart", dVs sq]), some (dG hs2), o7, o8, o9] ∧ st = [⟨q, true, sO a b z⟩] ∧ SRC a b, ⟨_, _, _, none, none, none, rfl, rfl, hs⟩, fun _ _ _ _ _ => trivial, ?_, ?_⟩
  · rintro i d en2 st2 hd ⟨a, b, z, o7, o8, o9, rfl, rfl, hs⟩
    obtain ⟨hi, rfl⟩ := rangeGet hd
    refine eg_name c (i := 6) rfl rfl (by decide) (.there (.there (.there (.there (.there (.there .here)))))) ?_
    refine sl_cons (ss_set c (i := 7) rfl rfl ?_)
    refine ee_pcall c (i := 3) f_image (by decide) rfl ?_
    refine ea_cons ?_
    refine ee_call c (i := 4) f__law_word (by decide) rfl ?_
    refine ea_cons ?_
    refine ee_var c (i := 0) rfl rfl rfl ?_
    refine ea_cons ?_
    refine ee_var c (i := 1) rfl rfl rfl ?_
    refine ea_cons ?_
    refine ee_int ?_
    refine ea_nil ?_
    refine ⟨_, _, _, .wr (by repeat (first | exact OutA.here | apply OutA.there)) (.nil _), ⟨q, _, _, _, gs, 10, 3, rfl, rfl, by omega, hg.1, hab, hs, rfl⟩, rfl, ?_⟩
    rintro _ _ ⟨w1, a1, b1, z1, rfl, hw1, hwb1, rfl, hs1⟩
    have hbv1 : BV 5000 (img w1 g) := (BV.img (ab_bv (n := 10) hwb1 (by decide)) hbg (k := 4001) (by omega) (by omega)).mono (by omega)
    have ho1 : Orb gs g (img w1 g) := ⟨w1, hw1, rfl⟩
    have hno1 : ¬ Orb gs s (img w1 g) := fun z => hno (z.trans ho1.symm)
    refine ea_cons ?_
    refine ee_var c (i := 3) rfl rfl rfl ?_
    refine ea_nil ?_
    refine ⟨_, ⟨w1, g, rfl, rfl⟩, rfl, ?_⟩
    rintro _ rfl
    refine ⟨_, (.there (.there (.there (.there (.there (.there (.there .here))))))), ?_⟩
    refine sl_cons (ss_if ?_)
    refine et_notB ?_
    refine ee_pcall c (i := 5) f_is_connection (by decide) rfl ?_
    refine ea_cons ?_
    refine ee_var c (i := 1) rfl rfl rfl ?_
    refine ea_cons ?_
    refine ee_var c (i := 2) rfl rfl rfl ?_
    refine ea_cons ?_
    refine ee_var c (i := 7) rfl rfl rfl ?_
    refine ea_cons ?_
    refine ee_var c (i := 4) rfl rfl rfl ?_
    refine ea_nil ?_
    refine ⟨_, ⟨n, gs, s, img w1 g, by omega, hg, .inr ⟨s, sq, rfl, hbs.mono (by omega), hbv1, hsq, hsl, hO, rfl⟩⟩, rfl, ?_⟩
    rintro _ ⟨b1, rfl, hb1⟩
    refine ee_bl ?_
    refine ⟨_, _, rfl, rfl, ?_⟩
    refine ⟨fun h2 => ?_, fun h2 => ?_⟩
    · exact absurd (hb1.mpr ⟨.refl s, hno1⟩) h2
    · refine isF ?_
      refine sl_nil ?_
      refine sl_cons (ss_if ?_)
      refine et_notB ?_
      refine ee_pcall c (i := 5) f_is_connection (by decide) rfl ?_
      refine ea_cons ?_
      refine ee_var c (i := 5) rfl rfl rfl ?_
      refine ea_cons ?_
      refine ee_var c (i := 2) rfl rfl rfl ?_
      refine ea_cons ?_
      refine ee_var c (i := 7) rfl rfl rfl ?_
      refine ea_cons ?_
      refine ee_tup ?_
      refine ea_cons ?_
      refine ee_str ?_
      refine ea_cons ?_
      refine ee_revT ?_
      refine ee_ixT ?_
      refine ee_var c (i := 4) rfl rfl rfl ?_
      refine ee_int ?_
      refine ⟨_, _, _, rfl, rfl, rfl, ?_⟩
      refine ⟨_, rfl, ?_⟩
      refine ea_nil ?_
      refine ⟨Nat.le_of_ble_eq_true rfl, ?_⟩
      refine ea_nil ?_
      refine ⟨_, ⟨5 * n + 34, hs2, s, img w1 g, by omega, hg2, .inr ⟨s, sq.reverse, by rw [show dVs sq.reverse = .tup (sq.map dV).reverse by unfold dVs; rw [List.map_reverse]]; rfl, hbs.mono (by omega), hbv1, fun v hv => hsq v (List.mem_reverse.mp hv), by rw [List.length_reverse]; exact hsl, (hO.congr hsame).rev, rfl⟩⟩, rfl, ?_⟩
      rintro _ ⟨b3, rfl, hb3⟩
      refine ee_bl ?_
      refine ⟨_, _, rfl, rfl, ?_⟩
      refine ⟨fun h4 => ?_, fun h4 => ?_⟩
      · exact absurd (hb3.mpr ⟨.refl s, fun z => hno1 ((Orb.congr hsame).mp z)⟩) h4
      · refine isF ?_
        refine sl_nil ?_
        refine sl_cons (ss_set c (i := 8) rfl rfl ?_)
        refine ee_pcall c (i := 3) f_image (by decide) rfl ?_
        refine ea_cons ?_
        refine ee_call c (i := 4) f__law_word (by decide) rfl ?_
        refine ea_cons ?_
        refine ee_var c (i := 0) rfl rfl rfl ?_
        refine ea_cons ?_
        refine ee_var c (i := 1) rfl rfl rfl ?_
        refine ea_cons ?_
        refine ee_int ?_
        refine ea_nil ?_
        refine ⟨_, _, _, .wr (by repeat (first | exact OutA.here | apply OutA.there)) (.nil _), ⟨q, _, _, _, gs, 10, 3, rfl, rfl, by omega, hg.1, hab, hs1, rfl⟩, rfl, ?_⟩
        rintro _ _ ⟨w2, a2, b2, z2, rfl, hw2, hwb2, rfl, hs2⟩
        have hbv2 : BV 5000 (img w2 s) := (BV.img (ab_bv (n := 10) hwb2 (by decide)) hbs (k := 4001) (by omega) (by omega)).mono (by omega)
        have ho2 : Orb gs s (img w2 s) := ⟨w2, hw2, rfl⟩
        refine ea_cons ?_
        refine ee_var c (i := 2) rfl rfl rfl ?_
        refine ea_nil ?_
        refine ⟨_, ⟨w2, s, rfl, rfl⟩, rfl, ?_⟩
        rintro _ rfl
        refine ⟨_, (.there (.there (.there (.there (.there (.there (.there (.there .here)))))))), ?_⟩
        refine sl_cons (ss_if ?_)
        refine et_notB ?_
        refine ee_pcall c (i := 5) f_is_connection (by decide) rfl ?_
        refine ea_cons ?_
        refine ee_var c (i := 1) rfl rfl rfl ?_
        refine ea_cons ?_
        refine ee_var c (i := 8) rfl rfl rfl ?_
        refine ea_cons ?_
        refine ee_var c (i := 3) rfl rfl rfl ?_
        refine ea_cons ?_
        refine ee_var c (i := 4) rfl rfl rfl ?_
        refine ea_nil ?_
        refine ⟨_, ⟨n, gs, img w2 s, g, by omega, hg, .inr ⟨s, sq, rfl, hbv2, hbg.mono (by omega), hsq, hsl, hO, rfl⟩⟩, rfl, ?_⟩
        rintro _ ⟨b5, rfl, hb5⟩
        refine ee_bl ?_
        refine ⟨_, _, rfl, rfl, ?_⟩
        refine ⟨fun h6 => ?_, fun h6 => ?_⟩
        · exact absurd (hb5.mpr ⟨ho2, hno⟩) h6
        · refine isF ?_
          refine sl_nil ?_
          refine sl_cons (ss_if ?_)
          refine et_notB ?_
          refine ee_pcall c (i := 5) f_is_connection (by decide) rfl ?_
          refine ea_cons ?_
          refine ee_var c (i := 1) rfl rfl rfl ?_
          refine ea_cons ?_
          refine ee_var c (i := 2) rfl rfl rfl ?_
          refine ea_cons ?_
          refine ee_var c (i := 8) rfl rfl rfl ?_
          refine ea_cons ?_
          refine ee_var c (i := 4) rfl rfl rfl ?_
          refine ea_nil ?_
          refine ⟨_, ⟨n, gs, s, img w2 s, by omega, hg, .inr ⟨s, sq, rfl, hbs.mono (by omega), hbv2, hsq, hsl, hO, rfl⟩⟩, rfl, ?_⟩
          rintro _ ⟨b7, rfl, hb7⟩
          refine ee_bl ?_
          refine ⟨_, _, rfl, rfl, ?_⟩
          refine ⟨fun h8 => ?_, fun h8 => ?_⟩
          · exact absurd (Bool.eq_false_iff.mpr fun z => (hb7.mp z).2 ho2) h8
          · refine isF ?_
            refine sl_nil ?_
            refine sl_nil ?_
            exact ⟨_, _, _, _, _, _, rfl, rfl, hs2⟩
  · rintro en2 st2 ⟨a, b, z, o7, o8, o9, rfl, rfl, hs⟩
    refine sl_cons (ss_ret ?_)
    refine ee_isBV ?_
    refine ee_pcall c (i := 5) f_is_connection (by decide) rfl ?_
    refine ea_cons ?_
    refine ee_var c (i := 1) rfl rfl rfl ?_
    refine ea_cons ?_
    refine ee_var c (i := 3) rfl rfl rfl ?_
    refine ea_cons ?_
    refine ee_var c (i := 2) rfl rfl rfl ?_
    refine ea_cons ?_
    refine ee_var c (i := 4) rfl rfl rfl ?_
    refine ea_nil ?_
    refine ⟨_, ⟨n, gs, g, s, by omega, hg, .inr ⟨s, sq, rfl, hbg.mono (by omega), hbs.mono (by omega), hsq, hsl, hO, rfl⟩⟩, rfl, ?_⟩
    rintro _ ⟨b9, rfl, hb9⟩
    refine ee_bl ?_
    refine ⟨_, _, rfl, rfl, ?_⟩
    intro b10 hb10
    obtain rfl : b10 = true := hb10.mpr (Bool.eq_false_iff.mpr fun z => (hb9.mp z).2 (.refl s))
    exact ⟨_, .refl _, fun e he => by simp at he; rw [he], rfl, a, b, z, rfl, hs⟩
end G
end
section
set_option Elab.async false
set_option linter.all false
set_option maxRecDepth 100000
set_option maxHeartbeats 4000000
/-! LB: the law's own normal form, as its loops go. -/
namespace G
open PySem L2
theorem euc_add (p q : V2) : p = vadd (euc p q) (smul (p.1.fdiv q.1) q) := by refine v2_ext ?_ ?_ <;> simp only [euc, vadd, smul] <;> grind
theorem euc_sub (p q : V2) : euc p q = vadd p (smul (-(p.1.fdiv q.1)) q) := by refine v2_ext ?_ ?_ <;> simp only [euc, vadd, smul] <;> grind
/-- the pairs while the loop runs: x at most 2 ^ sx, y at most 2 ^ (by + ..), K a bound of the least x -/
structure PQ (vs : List V2) (sx Y L K : Nat) (ps : List V2) : Prop where
  nd : ps.Nodup
  nz : ∀ p ∈ ps, p ≠ (0, 0)
  sp : ∀ u, Sp ps u ↔ Sp vs u
  len : ps.length ≤ L
  bx : ∀ p ∈ ps, Bt sx p.1
  by' : ∀ p ∈ ps, Bt Y p.2
  mn : (ps.filter fun p => decide (p.1 ≠ 0)).length ≤ 1 ∨ ∃ p ∈ ps, p.1 ≠ 0 ∧ p.1.natAbs ≤ K
theorem nodup_len {α : Type} [BEq α] [LawfulBEq α] : ∀ {xs ys : List α}, xs.Nodup → (∀ x ∈ xs, x ∈ ys) → xs.length ≤ ys.length
  | [], _, _, _ => Nat.zero_le _
  | x :: xs, ys, nd, h => by
    rw [List.nodup_cons] at nd
    have h1 : x ∈ ys := h x List.mem_cons_self
    have h2 := nodup_len (xs := xs) (ys := ys.erase x) nd.2 fun z hz => by
      have hne : z ≠ x := fun e => nd.1 (by rw [← e]; exact hz)
      exact (List.mem_erase_of_ne hne).mpr (h z (List.mem_cons_of_mem _ hz))
    rw [List.length_erase, if_pos (by simpa using h1)] at h2
    have : 0 < ys.length := List.length_pos_iff.mpr fun e => by rw [e] at h1; cases h1
    simp only [List.length_cons]; omega
theorem two_ne {ps : List V2} {q : V2} (nd : ps.Nodup) (h : 1 < (ps.filter fun p => decide (p.1 ≠ 0)).length) : ∃ p ∈ ps, p.1 ≠ 0 ∧ p ≠ q := by
  have nf := nd.filter (fun p => decide (p.1 ≠ 0))
  generalize hf : ps.filter (fun p => decide (p.1 ≠ 0)) = fs at *
  match fs, h, nf with
  | a :: b :: r, _, nf =>
    have nf : (a :: b :: r).Nodup := nf
    rw [List.nodup_cons] at nf
    have ha := List.mem_filter.mp (by rw [hf]; simp : a ∈ ps.filter fun p => decide (p.1 ≠ 0))
    have hb := List.mem_filter.mp (by rw [hf]; simp : b ∈ ps.filter fun p => decide (p.1 ≠ 0))
    by_cases e : a = q
    · refine ⟨b, hb.1, by simpa using hb.2, fun z => nf.1 (by rw [e, ← z]; simp)⟩
    · exact ⟨a, ha.1, by simpa using ha.2, e⟩
/-- one turn of the loop -/
theorem PQ.turn {vs : List V2} {sx Y L K : Nat} {ps qs : List V2} {q : V2} (h : PQ vs sx Y L K ps) (hc : 1 < (ps.filter fun p => decide (p.1 ≠ 0)).length) (hq : q ∈ ps) (hq0 : q.1 ≠ 0) (hm : ∀ p ∈ ps, p.1 ≠ 0 → q.1.natAbs ≤ p.1.natAbs)
    (qn : qs.Nodup) (hqs : ∀ v, v ∈ qs ↔ v ≠ (0, 0) ∧ v ∈ ((ps.filter fun p => decide (p ≠ q)).map fun p => euc p q) ++ [q]) : K ≠ 0 ∧ PQ vs sx (Y + sx + 1) L (K - 1) qs := by
  have hqne : q ≠ (0, 0) := h.nz q hq
  have hqq : q ∈ qs := (hqs q).mpr ⟨hqne, by simp⟩
  have hK : q.1.natAbs ≤ K := by
    rcases h.mn with z | ⟨p, hp, h0, hle⟩
    · omega
    · exact Nat.le_trans (hm p hp h0) hle
  refine ⟨by omega, qn, fun p hp => ((hqs p).mp hp).1, fun u => ?_, ?_, fun p hp => ?_, fun p hp => ?_, ?_⟩
  · rw [← h.sp]
    refine sp_eq ?_ ?_ u
    · intro v hv
      rcases List.mem_append.mp ((hqs v).mp hv).2 with hv | hv
      · obtain ⟨p, hp, rfl⟩ := List.mem_map.mp hv
        rw [euc_sub]
        exact (Sp.mem (List.mem_filter.mp hp).1).add' (Sp.smul (.mem hq) _)
      · simp at hv; subst hv; exact .mem hq
    · intro p hp
      by_cases e : p = q
      · subst e; exact .mem hqq
      · have he : Sp qs (euc p q) := by
          by_cases hz : euc p q = (0, 0)
          · rw [hz]; exact .zero
          · exact .mem ((hqs _).mpr ⟨hz, List.mem_append_left _ (List.mem_map.mpr ⟨p, List.mem_filter.mpr ⟨hp, by simpa using e⟩, rfl⟩)⟩)
        rw [euc_add p q]
        exact he.add' (Sp.smul (.mem hqq) _)
  · have h1 : qs.length ≤ (((ps.filter fun p => decide (p ≠ q)).map fun p => euc p q) ++ [q]).length := nodup_len qn fun v hv => ((hqs v).mp hv).2
    have h2 : (ps.filter fun p => decide (p ≠ q)).length < ps.length := by
      have h3 := nodup_len (xs := q :: ps.filter fun p => decide (p ≠ q)) (ys := ps) (List.nodup_cons.mpr ⟨fun z => by have := (List.mem_filter.mp z).2; simp at this, h.nd.filter _⟩) fun x hx => by
        rcases List.mem_cons.mp hx with rfl | hx
        · exact hq
        · exact (List.mem_filter.mp hx).1
      rw [List.length_cons] at h3
      omega
    simp only [List.length_append, List.length_map, List.length_cons, List.length_nil] at h1
    have := h.len
    omega
  · rcases List.mem_append.mp ((hqs p).mp hp).2 with hv | hv
    · obtain ⟨p', hp', rfl⟩ := List.mem_map.mp hv
      rw [euc_fst _ _ hq0]
      exact (h.bx q hq).fmod hq0
    · simp at hv; subst hv; exact h.bx p hq
  · rcases List.mem_append.mp ((hqs p).mp hp).2 with hv | hv
    · obtain ⟨p', hp', rfl⟩ := List.mem_map.mp hv
      have hpm := (List.mem_filter.mp hp').1
      exact (h.by' p' hpm).sub (((h.bx p' hpm).fdiv).mul (h.by' q hq)) (by omega) (by omega)
    · simp at hv; subst hv; exact (h.by' p hq).mono (by omega)
  · by_cases hcn : (qs.filter fun p => decide (p.1 ≠ 0)).length ≤ 1
    · exact .inl hcn
    · obtain ⟨p, hp, hp0, hpq⟩ := two_ne (q := q) qn (by omega)
      refine .inr ⟨p, hp, hp0, ?_⟩
      rcases List.mem_append.mp ((hqs p).mp hp).2 with hv | hv
      · obtain ⟨p', hp', rfl⟩ := List.mem_map.mp hv
        have := euc_lt p' q hq0
        omega
      · simp at hv; exact absurd hv hpq
theorem PQ.init {vs ps : List V2} {sx Y L K : Nat} (nd : ps.Nodup) (hp : ∀ v, v ∈ ps ↔ v ≠ (0, 0) ∧ v ∈ vs) (hl : vs.length ≤ L) (bx : ∀ v ∈ vs, Bt sx v.1) (by' : ∀ v ∈ vs, Bt Y v.2) (hK : (∀ v ∈ vs, v.1 = 0) ∨ ∃ v ∈ vs, v.1 ≠ 0 ∧ v.1.natAbs ≤ K) : PQ vs sx Y L K ps := by
  refine ⟨nd, fun p h => ((hp p).mp h).1, fun u => sp_eq ?_ ?_ u, Nat.le_trans (nodup_len nd fun v hv => ((hp v).mp hv).2) hl, fun p h => bx p ((hp p).mp h).2, fun p h => by' p ((hp p).mp h).2, ?_⟩
  · intro v hv; exact .mem ((hp v).mp hv).2
  · intro v hv
    by_cases hz : v = (0, 0)
    · rw [hz]; exact .zero
    · exact .mem ((hp v).mpr ⟨hz, hv⟩)
  · rcases hK with h | ⟨v, hv, h0, hle⟩
    · left
      have : ps.filter (fun p => decide (p.1 ≠ 0)) = [] := List.filter_eq_nil_iff.mpr fun p h2 => by
        have := h p ((hp p).mp h2).2
        simpa using this
      rw [this]; simp
    · exact .inr ⟨v, (hp v).mpr ⟨fun e => h0 (by rw [e]), hv⟩, h0, hle⟩
/-! ### the end -/
def low (ps : List V2) : Int := ps.foldl (fun l p => if p.1 = 0 then (Int.gcd l p.2 : Nat) else l) 0
theorem low_nn : ∀ (ps : List V2) (l : Int), 0 ≤ l → 0 ≤ ps.foldl (fun l p => if p.1 = 0 then ((Int.gcd l p.2 : Nat) : Int) else l) l
  | [], l, h => h
  | p :: r, l, h => by
    rw [List.foldl_cons]
    refine low_nn r _ ?_
    split
    · omega
    · exact h
theorem low_sp (f : V2) : ∀ (ps : List V2) (l : Int) (u : V2), Sp (f :: (0, l) :: ps.filter fun p => decide (p.1 = 0)) u ↔ Sp [f, (0, ps.foldl (fun l p => if p.1 = 0 then ((Int.gcd l p.2 : Nat) : Int) else l) l)] u
  | [], l, u => by simp
  | p :: r, l, u => by
    rw [List.foldl_cons]
    by_cases h : p.1 = 0
    · rw [if_pos h, ← low_sp f r _ u, List.filter_cons, if_pos (by simpa using h)]
      have ep : p = (0, p.2) := Prod.ext h rfl
      have g := sp_gcd f l p.2
      refine sp_eq ?_ ?_ u
      · intro v hv
        have up : ∀ {x}, Sp [f, (0, ((Int.gcd l p.2 : Nat) : Int))] x → Sp (f :: (0, ((Int.gcd l p.2 : Nat) : Int)) :: r.filter fun p => decide (p.1 = 0)) x := fun hx => hx.mono fun y hy => by simp at hy ⊢; rcases hy with rfl | rfl <;> simp
        simp only [List.mem_cons] at hv
        rcases hv with rfl | rfl | rfl | hv
        · exact .mem (by simp)
        · exact up ((g _).mp (.mem (by simp)))
        · exact up ((g _).mp (by rw [ep]; exact .mem (by simp)))
        · exact .mem (by simp; exact .inr (.inr (by simpa using hv)))
      · intro v hv
        have up : ∀ {x}, Sp [f, (0, p.2), (0, l)] x → Sp (f :: (0, l) :: p :: r.filter fun p => decide (p.1 = 0)) x := fun hx => hx.mono fun y hy => by rw [← ep] at hy; simp at hy ⊢; rcases hy with rfl | rfl | rfl <;> simp
        simp only [List.mem_cons] at hv
        rcases hv with rfl | rfl | hv
        · exact .mem (by simp)
        · exact up ((g _).mpr (.mem (by simp)))
        · exact .mem (by simp; exact .inr (.inr (.inr (by simpa using hv))))
    · rw [if_neg h, ← low_sp f r _ u, List.filter_cons, if_neg (by simpa using h)]
def head0 (ps : List V2) : V2 := ((ps.filter fun p => decide (p.1 ≠ 0)).head?).getD (0, 0)
theorem PQ.fin {vs : List V2} {sx Y L K : Nat} {ps : List V2} (h : PQ vs sx Y L K ps) (hc : (ps.filter fun p => decide (p.1 ≠ 0)).length ≤ 1) {S : Nat} (hS : BL S vs) : NB S (nfOf (head0 ps) (low ps)) vs := by
  have hn := nfOf_ok (head0 ps) (low ps) (fun z => ?_) (low_nn ps 0 (Int.le_refl _))
  · refine nb_of hn.1 (fun u => (hn.2 u).trans ?_) hS
    rw [← h.sp u]
    show Sp [head0 ps, (0, low ps)] u ↔ _
    rw [show low ps = ps.foldl (fun l p => if p.1 = 0 then ((Int.gcd l p.2 : Nat) : Int) else l) 0 from rfl, ← low_sp]
    refine sp_eq ?_ ?_ u
    · intro v hv
      simp only [List.mem_cons] at hv
      rcases hv with rfl | rfl | hv
      · unfold head0
        cases hf : ps.filter (fun p => decide (p.1 ≠ 0)) with
        | nil => exact .zero
        | cons a r => exact .mem (List.mem_filter.mp (by rw [hf]; simp : a ∈ ps.filter fun p => decide (p.1 ≠ 0))).1
      · exact .zero
      · exact .mem (List.mem_filter.mp hv).1
    · intro v hv
      by_cases hz : v.1 = 0
      · exact .mem (by simp; exact .inr (.inr ⟨hv, hz⟩))
      · have hm : v ∈ ps.filter fun p => decide (p.1 ≠ 0) := List.mem_filter.mpr ⟨hv, by simpa using hz⟩
        unfold head0
        generalize ps.filter (fun p => decide (p.1 ≠ 0)) = fs at *
        match fs, hc, hm with
        | [a], _, hm => simp at hm; subst hm; exact .mem (by simp)
  · unfold head0 at *
    cases hf : ps.filter (fun p => decide (p.1 ≠ 0)) with
    | nil => rfl
    | cons a r =>
      rw [hf] at z
      have := (List.mem_filter.mp (by rw [hf]; simp : a ∈ ps.filter fun p => decide (p.1 ≠ 0))).2
      simp at this
      exact absurd z this
end G
namespace G
open PySem L2
def hdv (p : V2) : V2 := if 0 < p.1 then p else (0 - p.1, 0 - p.2)
def nzx (ps : List V2) : List V2 := ps.filter fun p => decide (p.1 ≠ 0)
theorem fin1 {ps : List V2} (hc : (nzx ps).length ≤ 1) (hl : low ps = 0) : (nzx ps).map hdv = nfOf (head0 ps) (low ps) := by
  rw [hl]
  unfold head0
  show (nzx ps).map hdv = nfOf ((nzx ps).head?.getD (0, 0)) 0
  cases hf : nzx ps with
  | nil => simp [nfOf]
  | cons a r =>
    rw [hf] at hc
    have : r = [] := by cases r with | nil => rfl | cons b t => simp at hc
    subst this
    have ha : a.1 ≠ 0 := by
      have := (List.mem_filter.mp (by show a ∈ nzx ps; rw [hf]; simp : a ∈ ps.filter fun p => decide (p.1 ≠ 0))).2
      simpa using this
    by_cases h : 0 < a.1
    · have h2 : ¬ a.1 < 0 := by omega
      simp [nfOf, hdv, h, h2, ha]
    · have h2 : a.1 < 0 := by omega
      have h3 : ¬ 0 - a.1 = 0 := by omega
      simp [nfOf, hdv, h, h2]
      omega
theorem fin2 {ps : List V2} (hc : (nzx ps).length ≤ 1) (hl : ¬ low ps = 0) : ((nzx ps).map hdv).map (fun p => ((p.1, p.2.fmod (low ps)) : V2)) ++ [(0, low ps)] = nfOf (head0 ps) (low ps) := by
  have hp : 0 < low ps := by have := low_nn ps 0 (Int.le_refl _); have e : low ps = ps.foldl (fun l p => if p.1 = 0 then ((Int.gcd l p.2 : Nat) : Int) else l) 0 := rfl; omega
  generalize low ps = l at *
  unfold head0
  show ((nzx ps).map hdv).map (fun p => ((p.1, p.2.fmod l) : V2)) ++ [(0, l)] = nfOf ((nzx ps).head?.getD (0, 0)) l
  cases hf : nzx ps with
  | nil => simp [nfOf, hp]
  | cons a r =>
    rw [hf] at hc
    have : r = [] := by cases r with | nil => rfl | cons b t => simp at hc
    subst this
    have ha : a.1 ≠ 0 := by
      have := (List.mem_filter.mp (by show a ∈ nzx ps; rw [hf]; simp : a ∈ ps.filter fun p => decide (p.1 ≠ 0))).2
      simpa using this
    by_cases h : 0 < a.1
    · have h2 : ¬ a.1 < 0 := by omega
      simp [nfOf, hdv, h, h2, ha, hl]
    · have h2 : a.1 < 0 := by omega
      simp [nfOf, hdv, h, h2, hl]
      omega
def lA (v : V2) : List Int := [((v.1.natAbs : Nat) : Int), v.1, v.2]
theorem min_of {ps : List V2} {nss : List (List Int)} (hp : nss.Perm ((nzx ps).map lA)) (hs : nss.Pairwise lle) (hc : 1 < (nzx ps).length) : ∃ (q : V2) (r : List (List Int)), nss = lA q :: r ∧ q ∈ ps ∧ q.1 ≠ 0 ∧ ∀ p ∈ ps, p.1 ≠ 0 → q.1.natAbs ≤ p.1.natAbs := by
  have hl := hp.length_eq
  rw [List.length_map] at hl
  cases nss with
  | nil => simp at hl; omega
  | cons n r =>
    have hn := (hp.mem_iff (a := n)).mp List.mem_cons_self
    obtain ⟨q, hq, rfl⟩ := List.mem_map.mp hn
    have hq' := List.mem_filter.mp hq
    refine ⟨q, r, rfl, hq'.1, by simpa using hq'.2, fun p hp' h0 => ?_⟩
    have hm := (hp.mem_iff (a := lA p)).mpr (List.mem_map.mpr ⟨p, List.mem_filter.mpr ⟨hp', by simpa using h0⟩, rfl⟩)
    rcases List.mem_cons.mp hm with e | hm
    · simp only [lA, List.cons.injEq] at e; omega
    · have := (List.pairwise_cons.mp hs).1 _ hm
      simp only [lA, lle] at this
      omega
theorem nodup_of_map {α β : Type} {f : α → β} {xs : List α} (h : (xs.map f).Nodup) : xs.Nodup := (List.pairwise_map.mp h).imp fun hne e => hne (by rw [e])
end G
namespace G
open PySem L2
def nz0 (vs : List V2) : List V2 := vs.filter fun v => decide (v ≠ (0, 0))
def noq (q : V2) (ps : List V2) : List V2 := ps.filter fun p => decide (p ≠ q)
theorem nz0_len (vs : List V2) : (nz0 vs).length ≤ vs.length := List.length_filter_le _ _
theorem noq_len (q : V2) (vs : List V2) : (noq q vs).length ≤ vs.length := List.length_filter_le _ _
theorem nzx_len (vs : List V2) : (nzx vs).length ≤ vs.length := List.length_filter_le _ _
theorem tlen {α : Type} (vs : List α) (i : Nat) : (vs.take i).length ≤ vs.length := by rw [List.length_take]; omega
theorem nz0_yes {vs : List V2} {i : Nat} {v : V2} (h : vs[i]? = some v) (hv : v ≠ (0, 0)) : nz0 (vs.take (i + 1)) = nz0 (vs.take i) ++ [v] := by
  unfold nz0; rw [takeS h, List.filter_append]; simp [List.filter_cons, hv]
theorem nz0_no {vs : List V2} {i : Nat} {v : V2} (h : vs[i]? = some v) (hv : v = (0, 0)) : nz0 (vs.take (i + 1)) = nz0 (vs.take i) := by
  unfold nz0; rw [takeS h, List.filter_append]; simp [List.filter_cons, hv]
theorem noq_yes {q : V2} {vs : List V2} {i : Nat} {v : V2} (h : vs[i]? = some v) (hv : v ≠ q) : noq q (vs.take (i + 1)) = noq q (vs.take i) ++ [v] := by
  unfold noq; rw [takeS h, List.filter_append]; simp [List.filter_cons, hv]
theorem noq_no {q : V2} {vs : List V2} {i : Nat} {v : V2} (h : vs[i]? = some v) (hv : v = q) : noq q (vs.take (i + 1)) = noq q (vs.take i) := by
  unfold noq; rw [takeS h, List.filter_append]; simp [List.filter_cons, hv]
theorem nzx_yes {vs : List V2} {i : Nat} {v : V2} (h : vs[i]? = some v) (hv : ¬ v.1 = 0) : nzx (vs.take (i + 1)) = nzx (vs.take i) ++ [v] := by
  unfold nzx; rw [takeS h, List.filter_append]; simp [List.filter_cons, hv]
theorem nzx_no {vs : List V2} {i : Nat} {v : V2} (h : vs[i]? = some v) (hv : v.1 = 0) : nzx (vs.take (i + 1)) = nzx (vs.take i) := by
  unfold nzx; rw [takeS h, List.filter_append]; simp [List.filter_cons, hv]
theorem mem_nz0 {vs : List V2} {v : V2} : v ∈ nz0 vs ↔ v ≠ (0, 0) ∧ v ∈ vs := by
  unfold nz0; rw [List.mem_filter]; simp; exact And.comm
theorem PQ.turn' {vs : List V2} {sx Y L K : Nat} {ps qs : List V2} {q : V2} (h : PQ vs sx Y L K ps) (hc : 1 < (nzx ps).length) (hq : q ∈ ps) (hq0 : q.1 ≠ 0) (hm : ∀ p ∈ ps, p.1 ≠ 0 → q.1.natAbs ≤ p.1.natAbs)
    (qn : qs.Nodup) (hqs : ∀ v, v ∈ qs ↔ v ∈ nz0 ((noq q ps).map (fun p => euc p q) ++ [q])) : K ≠ 0 ∧ PQ vs sx (Y + sx + 1) L (K - 1) qs :=
  h.turn hc hq hq0 hm qn fun v => (hqs v).trans mem_nz0
end G
end
section
set_option Elab.async false
set_option linter.all false
set_option maxRecDepth 100000
set_option maxHeartbeats 4000000
namespace G
open PySem L2
variable {P : Program} {w : World} {K : PySem.W.Frag} {mg : Str → Option Value} {base : Heap}
def W__law_basis : Spec := fun want ds R => ∃ (S K : Nat) (vs : List V2) (q : Addr), want = [⟨q, false, .lst (vs.map dV)⟩] ∧ ds = [.ref q] ∧ S ≤ 200 ∧ K ≤ 4096 ∧ vs.length ≤ 50 ∧ BL S vs ∧ ((∀ v ∈ vs, v.1 = 0) ∨ ∃ v ∈ vs, v.1 ≠ 0 ∧ v.1.natAbs ≤ K) ∧ R = fun d st => (∃ b, d = dVs b ∧ NB S b vs) ∧ st = []
theorem ok__law_basis {f : Addr} {fd : FuncData} (Fu : FunT K "_law_basis" 77 [] f fd) (mb : MB mg) (mc : MC K mg) (f__law_divisor : Fn P w K mg base "_law_divisor" 1 2 [] W__law_divisor) : FnOk P w K mg base CX0 2 f fd ["_law_vectors"] (spW K 1 W__law_basis) := by
  refine fnok_mk (N := ["_law_vectors", "_law_pairs", "_law_x", "_law_y", "_law_rest", "_law_low", "_law_heads", "_law_a", "_law_b", "_law_vector", "_law_pair"]) (Gs := ["sorted", "set", "len", "_law_divisor", "tuple"]) (Vi := [0, 1, 2, 3, 4, 5, 6]) Fu ⟨rfl, rfl, rfl, by decide +kernel, rfl, by decide +kernel, by decide +kernel⟩ (by decide +kernel) rfl ?_
  rintro X F want ds R c hsc ⟨S, K0, vs, q, rfl, rfl, hS, hK, hvl, hbS, hKh, rfl⟩ hl hF
  show SL X F _ [some _, none, none, none, none, none, none, none, none, none, none] _ _ _
  refine sl_cons (ss_set c (i := 1) rfl rfl ?_)
  refine ee_sortSetT c (i := 0) rfl mb.sorted (j := 1) rfl mb.set ?_
  refine ee_lc c [("_law_vector", 9)] (G' := []) (V' := [9]) (by rw [hsc]; decide +kernel) (by rw [hsc]; decide +kernel) ?_
  refine ei_lst ?_
  refine ee_var c (i := 0) rfl rfl rfl ?_
  refine ⟨_, _, rfl, (by repeat (first | exact Has.here | apply Has.there)), ?_⟩
  intro p1
  refine ⟨fun i st => st = [⟨p1, true, .lst ((nz0 (vs.take i)).map dV)⟩, ⟨q, false, .lst (vs.map dV)⟩], rfl, fun _ _ _ e => by rw [e]; exact .there .here, ?_, ?_⟩
  · rintro i d st2 hd rfl Xp1 hX
    obtain ⟨v, hv, rfl⟩ := getMap hd
    refine eg_name hX.2 (i := 9) rfl rfl (by decide) (.there (.there (.there (.there (.there (.there (.there (.there (.there .here))))))))) ?_
    intro Xp1 hX
    refine et_neD hX.2 ?_
    refine ee_var hX.2 (i := 9) rfl rfl rfl ?_
    refine ee_tup ?_
    refine ea_cons ?_
    refine ee_int ?_
    refine ea_cons ?_
    refine ee_int ?_
    refine ea_nil ?_
    refine ⟨Nat.le_of_ble_eq_true rfl, ?_⟩
    refine ⟨by first | exact pl_dV _ | exact pl_dS _ | exact pl_dVs _ | exact pl_dG _ | rfl, by first | exact pl_dV _ | exact pl_dS _ | exact pl_dVs _ | exact pl_dG _ | rfl, ?_⟩
    refine ⟨fun h2 => ?_, fun h2 => ?_⟩
    · refine isT ?_
      intro Xp1 hX
      refine ee_var hX.2 (i := 9) rfl rfl rfl ?_
      refine ⟨_, _, .here, by rw [List.length_map]; have h1 := nz0_len (vs.take i); have h2 := tlen vs i; have := sizeLine_big; omega, ?_⟩
      show _ = _
      have hne : v ≠ (0, 0) := fun e => h2 (by rw [e]; rfl)
      rw [nz0_yes hv hne, List.map_append]; rfl
    · refine isF ?_
      show _ = _
      have hne : v = (0, 0) := dV_inj (w := (0, 0)) (Classical.not_not.mp h2)
      rw [nz0_no hv hne]
  · rintro st2 rfl
    rw [List.length_map, List.take_length, map_dV_tI]
    refine ⟨_, (nz0 vs).map lV, 2, rfl, .here, by have h1 := nz0_len vs; rw [List.length_map]; omega, by decide, fun ns hns => by obtain ⟨v, _, rfl⟩ := List.mem_map.mp hns; rfl, fun pp0 nss hnd hmem _ _ => ?_⟩
    obtain ⟨ps0, rfl, hps0⟩ := set_back hmem
    rw [← map_dV_tI]
    have hQ0 : PQ vs S S 50 K0 ps0 := PQ.init (nodup_of_map hnd) (fun v => (hps0 v).trans mem_nz0) hvl (fun v hv => (hbS v hv).1) (fun v hv => (hbS v hv).2) hKh
    refine ⟨_, (.there .here), ?_⟩
    refine sl_st (.cons_cons _ (List.nil_sublist _)) ?_
    refine sl_cons (ss_while c (fun m en st => ∃ (pp : Addr) (ps : List V2) (Y : Nat) (o2 o3 o4 : Option D), en = [some (.ref q), some (.ref pp), o2, o3, o4, none, none, none, none, none, none] ∧ st = [⟨pp, true, .lst (ps.map dV)⟩] ∧ PQ vs S Y 50 m ps ∧ Y + m * (S + 1) ≤ S + K0 * (S + 1)) ⟨K0, pp0, ps0, S, none, none, none, rfl, rfl, hQ0, Nat.le_refl _⟩ ?_)
    rintro m en1 st1 ⟨pp, ps, Y, o2, o3, o4, rfl, rfl, hQ, hY⟩
    have hKS : K0 * (S + 1) ≤ 4096 * 201 := Nat.mul_le_mul hK (by omega)
    have hYb : Y ≤ 830000 := by have := Nat.zero_le (m * (S + 1)); omega
    have hpl := hQ.len
    refine et_gt ?_
    refine ee_lenL c (i := 2) rfl mb.len ?_
    refine ee_lc c [("_law_x", 2), ("_law_y", 3)] (G' := []) (V' := [2, 3]) (by rw [hsc]; decide +kernel) (by rw [hsc]; decide +kernel) ?_
    refine ei_lst ?_
    refine ee_var c (i := 1) rfl rfl rfl ?_
    refine ⟨_, _, rfl, (by repeat (first | exact Has.here | apply Has.there)), ?_⟩
    intro p3
    refine ⟨fun i st => st = [⟨p3, true, .lst ((nzx (ps.take i)).map fun _ => D.int 1)⟩, ⟨pp, true, .lst (ps.map dV)⟩], rfl, fun _ _ _ e => by rw [e]; exact .there .here, ?_, ?_⟩
    · rintro i d st2 hd rfl Xp3 hX
      obtain ⟨v, hv, rfl⟩ := getMap hd
      refine eg_tup hX.2 (n := 2) ?_ rfl
      refine egs_cons ?_
      refine eg_name hX.2 (i := 2) rfl rfl (by decide) (.there (.there .here)) ?_
      refine egs_cons ?_
      refine eg_name hX.2 (i := 3) rfl rfl (by decide) (.there (.there (.there .here))) ?_
      refine egs_nil ?_
      intro Xp3 hX
      refine et_neI ?_
      refine ee_var hX.2 (i := 2) rfl rfl rfl ?_
      refine ee_int ?_
      refine ⟨_, _, rfl, rfl, ?_⟩
      refine ⟨fun h4 => ?_, fun h4 => ?_⟩
      · refine isT ?_
        intro Xp3 hX
        refine ee_int ?_
        refine ⟨_, _, .here, by rw [List.length_map]; have h1 := nzx_len (ps.take i); have h2 := tlen ps i; have := sizeLine_big; omega, ?_⟩
        show _ = _
        rw [nzx_yes hv h4, List.map_append]; rfl
      · refine isF ?_
        show _ = _
        rw [nzx_no hv (Classical.not_not.mp h4)]
    · rintro st2 rfl
      rw [List.length_map, List.take_length]
      refine ⟨_, _, rfl, .here, ?_⟩
      rw [List.length_map]
      refine ee_int ?_
      refine ⟨_, _, rfl, rfl, ?_⟩
      refine ⟨fun h5 => ?_, fun h5 => ?_⟩
      · refine isT ?_
        refine sl_st (.cons _ (.refl _)) ?_
        have hc : 1 < (nzx ps).length := by omega
        refine sl_cons (ss_asg (vs := [2, 3]) ?_ )
        refine ee_from1 ?_
        refine ee_ixL ?_
        refine ee_sortT c (i := 0) rfl mb.sorted ?_
        refine ee_lc c [("_law_a", 7), ("_law_b", 8)] (G' := ["abs"]) (V' := [7, 8]) (by rw [hsc]; decide +kernel) (by rw [hsc]; decide +kernel) ?_
        refine ei_lst ?_
        refine ee_var c (i := 1) rfl rfl rfl ?_
        refine ⟨_, _, rfl, (by repeat (first | exact Has.here | apply Has.there)), ?_⟩
        intro p6
        refine ⟨fun i st => st = [⟨p6, true, .lst (((nzx (ps.take i)).map lA).map tI)⟩, ⟨pp, true, .lst (ps.map dV)⟩], rfl, fun _ _ _ e => by rw [e]; exact .there .here, ?_, ?_⟩
        · rintro i d st2 hd rfl Xp6 hX
          obtain ⟨v, hv, rfl⟩ := getMap hd
          refine eg_tup hX.2 (n := 2) ?_ rfl
          refine egs_cons ?_
          refine eg_name hX.2 (i := 7) rfl rfl (by decide) (.there (.there (.there (.there (.there (.there (.there .here))))))) ?_
          refine egs_cons ?_
          refine eg_name hX.2 (i := 8) rfl rfl (by decide) (.there (.there (.there (.there (.there (.there (.there (.there .here)))))))) ?_
          refine egs_nil ?_
          intro Xp6 hX
          refine et_neI ?_
          refine ee_var hX.2 (i := 7) rfl rfl rfl ?_
          refine ee_int ?_
          refine ⟨_, _, rfl, rfl, ?_⟩
          refine ⟨fun h7 => ?_, fun h7 => ?_⟩
          · refine isT ?_
            intro Xp6 hX
            refine ee_tup ?_
            refine ea_cons ?_
            refine ee_abs hX.2 (i := 0) rfl mb.abs ?_
            refine ee_var hX.2 (i := 7) rfl rfl rfl ?_
            refine ⟨_, rfl, ?_⟩
            refine ea_cons ?_
            refine ee_var hX.2 (i := 7) rfl rfl rfl ?_
            refine ea_cons ?_
            refine ee_var hX.2 (i := 8) rfl rfl rfl ?_
            refine ea_nil ?_
            refine ⟨Nat.le_of_ble_eq_true rfl, ?_⟩
            refine ⟨_, _, .here, by rw [List.length_map, List.length_map]; have h1 := nzx_len (ps.take i); have h2 := tlen ps i; have := sizeLine_big; omega, ?_⟩
            show _ = _
            rw [nzx_yes hv h7, List.map_append, List.map_append]; rfl
          · refine isF ?_
            show _ = _
            rw [nzx_no hv (Classical.not_not.mp h7)]
        · rintro st2 rfl
          rw [List.length_map, List.take_length]
          refine ⟨_, (nzx ps).map lA, 3, rfl, .here, by have h1 := nzx_len ps; rw [List.length_map]; omega, by decide, fun ns hns => by obtain ⟨v, _, rfl⟩ := List.mem_map.mp hns; rfl, fun pS nss hp hs => ?_⟩
          obtain ⟨q0, nr, rfl, hq0, hqx, hqm⟩ := min_of hp hs hc
          refine ee_int ?_
          refine ⟨_, _, _, tI (lA q0), rfl, (by repeat (first | exact Has.here | apply Has.there)), rfl, atI_nat (j := 0) rfl, ?_⟩
          refine ⟨_, rfl, ?_⟩
          refine eg_tup c (n := 2) ?_ rfl
          refine egs_cons ?_
          refine eg_name c (i := 2) rfl rfl (by decide) (.there (.there .here)) ?_
          refine egs_cons ?_
          refine eg_name c (i := 3) rfl rfl (by decide) (.there (.there (.there .here))) ?_
          refine egs_nil ?_
          refine sl_st (.cons _ (.cons _ (.refl _))) ?_
          refine sl_cons (ss_setLc c [("_law_a", 7), ("_law_b", 8)] (i := 4) (G' := []) (V' := [7, 8, 2, 3]) rfl rfl (by rw [hsc]; rfl) rfl (by decide +kernel) (by rw [hsc]; decide +kernel) (by rw [hsc]; decide +kernel) ?_)
          refine ei_lst ?_
          refine ee_var c (i := 1) rfl rfl rfl ?_
          refine ⟨_, _, rfl, (by repeat (first | exact Has.here | apply Has.there)), ?_⟩
          intro p8
          refine ⟨fun i st => st = [⟨p8, true, .lst (((noq q0 (ps.take i)).map fun p => euc p q0).map dV)⟩, ⟨pp, true, .lst (ps.map dV)⟩], rfl, fun _ _ _ e => by rw [e]; exact .there .here, ?_, ?_⟩
          · rintro i d st2 hd rfl Xp8 hX
            obtain ⟨v, hv, rfl⟩ := getMap hd
            have hvm := List.mem_of_getElem? hv
            have hbx := hQ.bx v hvm
            have hbqx := hQ.bx q0 hq0
            have hbqy := hQ.by' q0 hq0
            refine eg_tup hX.2 (n := 2) ?_ rfl
            refine egs_cons ?_
            refine eg_name hX.2 (i := 7) rfl rfl (by decide) (.there (.there (.there (.there (.there (.there (.there .here))))))) ?_
            refine egs_cons ?_
            refine eg_name hX.2 (i := 8) rfl rfl (by decide) (.there (.there (.there (.there (.there (.there (.there (.there .here)))))))) ?_
            refine egs_nil ?_
            intro Xp8 hX
            refine et_neD hX.2 ?_
            refine ee_tup ?_
            refine ea_cons ?_
            refine ee_var hX.2 (i := 7) rfl rfl rfl ?_
            refine ea_cons ?_
            refine ee_var hX.2 (i := 8) rfl rfl rfl ?_
            refine ea_nil ?_
            refine ⟨Nat.le_of_ble_eq_true rfl, ?_⟩
            refine ee_tup ?_
            refine ea_cons ?_
            refine ee_var hX.2 (i := 2) rfl rfl rfl ?_
            refine ea_cons ?_
            refine ee_var hX.2 (i := 3) rfl rfl rfl ?_
            refine ea_nil ?_
            refine ⟨Nat.le_of_ble_eq_true rfl, ?_⟩
            refine ⟨by first | exact pl_dV _ | exact pl_dS _ | exact pl_dVs _ | exact pl_dG _ | rfl, by first | exact pl_dV _ | exact pl_dS _ | exact pl_dVs _ | exact pl_dG _ | rfl, ?_⟩
            refine ⟨fun h9 => ?_, fun h9 => ?_⟩
            · refine isT ?_
              intro Xp8 hX
              refine ee_tup ?_
              refine ea_cons ?_
              refine ee_sub ?_
              refine ee_var hX.2 (i := 7) rfl rfl rfl ?_
              refine ee_mulO ?_
              refine ee_fdiv ?_
              refine ee_var hX.2 (i := 7) rfl rfl rfl ?_
              refine ee_var hX.2 (i := 2) rfl rfl rfl ?_
              refine ⟨_, _, rfl, rfl, hbqx.divOk hqx (by omega), ?_⟩
              refine ee_var hX.2 (i := 2) rfl rfl rfl ?_
              refine ⟨_, _, rfl, rfl, (hbx.fdiv).mulOk hbqx (by omega), ?_⟩
              refine ⟨_, _, rfl, rfl, ?_⟩
              refine ea_cons ?_
              refine ee_sub ?_
              refine ee_var hX.2 (i := 8) rfl rfl rfl ?_
              refine ee_mulO ?_
              refine ee_fdiv ?_
              refine ee_var hX.2 (i := 7) rfl rfl rfl ?_
              refine ee_var hX.2 (i := 2) rfl rfl rfl ?_
              refine ⟨_, _, rfl, rfl, hbqx.divOk hqx (by omega), ?_⟩
              refine ee_var hX.2 (i := 3) rfl rfl rfl ?_
              refine ⟨_, _, rfl, rfl, (hbx.fdiv).mulOk hbqy (by omega), ?_⟩
              refine ⟨_, _, rfl, rfl, ?_⟩
              refine ea_nil ?_
              refine ⟨Nat.le_of_ble_eq_true rfl, ?_⟩
              refine ⟨_, _, .here, by rw [List.length_map, List.length_map]; have h1 := noq_len q0 (ps.take i); have h2 := tlen ps i; have := sizeLine_big; omega, ?_⟩
              show _ = _
              have hne : v ≠ q0 := fun e => h9 (by rw [e])
              rw [noq_yes hv hne, List.map_append, List.map_append]; rfl
            · refine isF ?_
              show _ = _
              have hne : v = q0 := dV_inj (Classical.not_not.mp h9)
              rw [noq_no hv hne]
          · rintro st2 rfl
            rw [List.length_map, List.take_length]
            refine ⟨_, (.there (.there (.there (.there .here)))), ?_⟩
            refine sl_cons (ss_set c (i := 1) rfl rfl ?_)
            refine ee_sortSetT c (i := 0) rfl mb.sorted (j := 1) rfl mb.set ?_
            refine ee_lc c [("_law_pair", 10)] (G' := []) (V' := [10]) (by rw [hsc]; decide +kernel) (by rw [hsc]; decide +kernel) ?_
            refine ei_lst ?_
            refine ee_catL ?_
            refine ee_var c (i := 4) rfl rfl rfl ?_
            refine ee_lst ?_
            refine ea_cons ?_
            refine ee_tup ?_
            refine ea_cons ?_
            refine ee_var c (i := 2) rfl rfl rfl ?_
            refine ea_cons ?_
            refine ee_var c (i := 3) rfl rfl rfl ?_
            refine ea_nil ?_
            refine ⟨Nat.le_of_ble_eq_true rfl, ?_⟩
            refine ea_nil ?_
            refine ⟨Nat.le_of_ble_eq_true rfl, fun p10 => ?_⟩
            refine ⟨_, _, _, [dV q0], _, _, rfl, rfl, (by repeat (first | exact Put.here | apply Put.there)), (by repeat (first | exact Put.here | apply Put.there)), by have h1 := noq_len q0 ps; rw [List.length_map, List.length_map]; have := sizeLine_big; simp; omega, fun pC => ?_⟩
            rw [show ∀ l : List D, l ++ [dV q0] = l ++ [q0].map dV from fun _ => rfl, ← List.map_append]
            generalize hX : ((noq q0 ps).map fun p => euc p q0) ++ [q0] = xs
            have hxl : xs.length ≤ 51 := by
              have h1 := noq_len q0 ps
              rw [← hX, List.length_append, List.length_map, List.length_cons, List.length_nil]; omega
            refine ⟨_, _, rfl, (by repeat (first | exact Has.here | apply Has.there)), ?_⟩
            intro p11
            refine ⟨fun i st => st = ⟨p11, true, .lst ((nz0 (xs.take i)).map dV)⟩ :: ⟨pC, true, .lst (xs.map dV)⟩ :: [⟨p10, true, .lst [dV q0]⟩, ⟨p8, true, .lst (((noq q0 ps).map fun p => euc p q0).map dV)⟩, ⟨pp, true, .lst (ps.map dV)⟩], rfl, fun _ _ _ e => by rw [e]; exact .there .here, ?_, ?_⟩
            · rintro i d st2 hd rfl Xp11 hX
              obtain ⟨v, hv, rfl⟩ := getMap hd
              refine eg_name hX.2 (i := 10) rfl rfl (by decide) (.there (.there (.there (.there (.there (.there (.there (.there (.there (.there .here)))))))))) ?_
              intro Xp11 hX
              refine et_neD hX.2 ?_
              refine ee_var hX.2 (i := 10) rfl rfl rfl ?_
              refine ee_tup ?_
              refine ea_cons ?_
              refine ee_int ?_
              refine ea_cons ?_
              refine ee_int ?_
              refine ea_nil ?_
              refine ⟨Nat.le_of_ble_eq_true rfl, ?_⟩
              refine ⟨by first | exact pl_dV _ | exact pl_dS _ | exact pl_dVs _ | exact pl_dG _ | rfl, by first | exact pl_dV _ | exact pl_dS _ | exact pl_dVs _ | exact pl_dG _ | rfl, ?_⟩
              refine ⟨fun h12 => ?_, fun h12 => ?_⟩
              · refine isT ?_
                intro Xp11 hX
                refine ee_var hX.2 (i := 10) rfl rfl rfl ?_
                refine ⟨_, _, .here, by rw [List.length_map]; have h1 := nz0_len (xs.take i); have h2 := tlen xs i; have := sizeLine_big; omega, ?_⟩
                show _ = _
                have hne : v ≠ (0, 0) := fun e => h12 (by rw [e]; rfl)
                rw [nz0_yes hv hne, List.map_append]; rfl
              · refine isF ?_
                show _ = _
                have hne : v = (0, 0) := dV_inj (w := (0, 0)) (Classical.not_not.mp h12)
                rw [nz0_no hv hne]
            · rintro st2 rfl
              rw [List.length_map, List.take_length, map_dV_tI]
              refine ⟨_, (nz0 xs).map lV, 2, rfl, .here, by have h1 := nz0_len xs; rw [List.length_map]; omega, by decide, fun ns hns => by obtain ⟨v, _, rfl⟩ := List.mem_map.mp hns; rfl, fun pp2 nss hnd hmem _ _ => ?_⟩
              obtain ⟨qs, rfl, hqs⟩ := set_back hmem
              rw [← map_dV_tI]
              obtain ⟨hm0, hQ2⟩ := hQ.turn' hc hq0 hqx hqm (nodup_of_map hnd) (fun v => by rw [hX]; exact hqs v)
              refine ⟨_, (.there .here), ?_⟩
              refine sl_st (.cons_cons _ (List.nil_sublist _)) ?_
              refine sl_nil ?_
              refine ⟨m - 1, by omega, pp2, qs, Y + S + 1, _, _, _, rfl, rfl, hQ2, ?_⟩
              have e : m * (S + 1) = (m - 1) * (S + 1) + (S + 1) := by
                have : m = (m - 1) + 1 := by omega
                conv => lhs; rw [this, Nat.add_mul, Nat.one_mul]
              omega
      · refine isF ?_
        refine sl_st (.cons _ (.refl _)) ?_
        have hc : (nzx ps).length ≤ 1 := by omega
        refine sl_cons (ss_set c (i := 5) rfl rfl ?_)
        refine ee_int ?_
        refine ⟨_, (.there (.there (.there (.there (.there .here))))), ?_⟩
        refine sl_cons (ss_for c (vs := [2, 3]) ?_)
        refine ei_lst ?_
        refine ee_var c (i := 1) rfl rfl rfl ?_
        refine ⟨_, _, rfl, (by repeat (first | exact Has.here | apply Has.there)), ?_⟩
        refine ⟨fun i en st => ∃ (o2 o3 : Option D), en = [some (.ref q), some (.ref pp), o2, o3, o4, some (.int (low (ps.take i))), none, none, none, none, none] ∧ st = [⟨pp, true, .lst (ps.map dV)⟩], ⟨_, _, rfl, rfl⟩, fun _ _ _ _ ⟨_, _, _, e⟩ => by rw [e]; exact .here, ?_, ?_⟩
        · rintro i d en2 st2 hd ⟨o2, o3, rfl, rfl⟩
          obtain ⟨v, hv, rfl⟩ := getMap hd
          have hlow := take_foldl (f := fun (l : Int) (p : V2) => if p.1 = 0 then ((Int.gcd l p.2 : Nat) : Int) else l) (b := 0) hv
          refine eg_tup c (n := 2) ?_ rfl
          refine egs_cons ?_
          refine eg_name c (i := 2) rfl rfl (by decide) (.there (.there .here)) ?_
          refine egs_cons ?_
          refine eg_name c (i := 3) rfl rfl (by decide) (.there (.there (.there .here))) ?_
          refine egs_nil ?_
          refine sl_cons (ss_if ?_)
          refine et_eqI ?_
          refine ee_var c (i := 2) rfl rfl rfl ?_
          refine ee_int ?_
          refine ⟨_, _, rfl, rfl, ?_⟩
          refine ⟨fun h13 => ?_, fun h13 => ?_⟩
          · refine isT ?_
            refine sl_cons (ss_set c (i := 5) rfl rfl ?_)
            refine ee_pcall c (i := 3) f__law_divisor (by decide) rfl ?_
            refine ea_cons ?_
            refine ee_var c (i := 5) rfl rfl rfl ?_
            refine ea_cons ?_
            refine ee_var c (i := 3) rfl rfl rfl ?_
            refine ea_nil ?_
            refine ⟨_, ⟨_, _, rfl, rfl⟩, rfl, ?_⟩
            rintro _ rfl
            refine ⟨_, (.there (.there (.there (.there (.there .here))))), ?_⟩
            refine sl_nil ?_
            refine sl_nil ?_
            have e : low (ps.take (i + 1)) = (Int.gcd (low (ps.take i)) v.2 : Nat) := by
              show (ps.take (i + 1)).foldl _ 0 = _
              rw [hlow, if_pos h13]; rfl
            exact ⟨some (.int v.1), some (.int v.2), by rw [e], rfl⟩
          · refine isF ?_
            refine sl_nil ?_
            refine sl_nil ?_
            have e : low (ps.take (i + 1)) = low (ps.take i) := by
              show (ps.take (i + 1)).foldl _ 0 = _
              rw [hlow, if_neg h13]; rfl
            exact ⟨some (.int v.1), some (.int v.2), by rw [e], rfl⟩
        · rintro en2 st2 ⟨o2, o3, rfl, rfl⟩
          rw [List.length_map, List.take_length]
          refine sl_cons (ss_setLc c [("_law_x", 2), ("_law_y", 3)] (i := 6) (G' := []) (V' := [2, 3]) rfl rfl (by rw [hsc]; rfl) rfl (by decide +kernel) (by rw [hsc]; decide +kernel) (by rw [hsc]; decide +kernel) ?_)
          refine ei_lst ?_
          refine ee_var c (i := 1) rfl rfl rfl ?_
          refine ⟨_, _, rfl, (by repeat (first | exact Has.here | apply Has.there)), ?_⟩
          intro p14
          refine ⟨fun i st => st = [⟨p14, true, .lst (((nzx (ps.take i)).map hdv).map dV)⟩, ⟨pp, true, .lst (ps.map dV)⟩], rfl, fun _ _ _ e => by rw [e]; exact .there .here, ?_, ?_⟩
          · rintro i d st2 hd rfl Xp14 hX
            obtain ⟨v, hv, rfl⟩ := getMap hd
            refine eg_tup hX.2 (n := 2) ?_ rfl
            refine egs_cons ?_
            refine eg_name hX.2 (i := 2) rfl rfl (by decide) (.there (.there .here)) ?_
            refine egs_cons ?_
            refine eg_name hX.2 (i := 3) rfl rfl (by decide) (.there (.there (.there .here))) ?_
            refine egs_nil ?_
            intro Xp14 hX
            refine et_neI ?_
            refine ee_var hX.2 (i := 2) rfl rfl rfl ?_
            refine ee_int ?_
            refine ⟨_, _, rfl, rfl, ?_⟩
            refine ⟨fun h15 => ?_, fun h15 => ?_⟩
            · refine isT ?_
              intro Xp14 hX
              refine ee_mono (Q' := fun d st1 => d = dV (hdv v) ∧ st1 = [⟨p14, true, .lst (((nzx (ps.take i)).map hdv).map dV)⟩, ⟨pp, true, .lst (ps.map dV)⟩]) (ee_ifx ?_) ?_
              · refine et_gt ?_
                refine ee_var hX.2 (i := 2) rfl rfl rfl ?_
                refine ee_int ?_
                refine ⟨_, _, rfl, rfl, ?_⟩
                refine ⟨fun h16 => ?_, fun h16 => ?_⟩
                · refine isT ?_
                  refine ee_tup ?_
                  refine ea_cons ?_
                  refine ee_var hX.2 (i := 2) rfl rfl rfl ?_
                  refine ea_cons ?_
                  refine ee_var hX.2 (i := 3) rfl rfl rfl ?_
                  refine ea_nil ?_
                  refine ⟨Nat.le_of_ble_eq_true rfl, ?_⟩
                  exact ⟨by rw [hdv, if_pos h16]; rfl, rfl⟩
                · refine isF ?_
                  refine ee_tup ?_
                  refine ea_cons ?_
                  refine ee_sub ?_
                  refine ee_int ?_
                  refine ee_var hX.2 (i := 2) rfl rfl rfl ?_
                  refine ⟨_, _, rfl, rfl, ?_⟩
                  refine ea_cons ?_
                  refine ee_sub ?_
                  refine ee_int ?_
                  refine ee_var hX.2 (i := 3) rfl rfl rfl ?_
                  refine ⟨_, _, rfl, rfl, ?_⟩
                  refine ea_nil ?_
                  refine ⟨Nat.le_of_ble_eq_true rfl, ?_⟩
                  exact ⟨by rw [hdv, if_neg h16]; rfl, rfl⟩
              · rintro _ _ ⟨rfl, rfl⟩
                refine ⟨_, _, .here, by rw [List.length_map, List.length_map]; have h1 := nzx_len (ps.take i); have h2 := tlen ps i; have := sizeLine_big; omega, ?_⟩
                show _ = _
                rw [nzx_yes hv h15, List.map_append, List.map_append]; rfl
            · refine isF ?_
              show _ = _
              rw [nzx_no hv (Classical.not_not.mp h15)]
          · rintro st2 rfl
            rw [List.length_map, List.take_length]
            refine ⟨_, (.there (.there (.there (.there (.there (.there .here)))))), ?_⟩
            refine sl_cons (ss_if ?_)
            refine et_eqI ?_
            refine ee_var c (i := 5) rfl rfl rfl ?_
            refine ee_int ?_
            refine ⟨_, _, rfl, rfl, ?_⟩
            refine ⟨fun h17 => ?_, fun h17 => ?_⟩
            · refine isT ?_
              refine sl_cons (ss_ret ?_)
              refine ee_tupleL c (i := 4) rfl mb.tuple ?_
              refine ee_var c (i := 6) rfl rfl rfl ?_
              refine ⟨_, _, rfl, (by repeat (first | exact Has.here | apply Has.there)), ?_⟩
              exact .pure ⟨⟨_, by rw [fin1 hc h17]; rfl, hQ.fin hc hbS⟩, rfl⟩
            · refine isF ?_
              refine sl_nil ?_
              refine sl_cons (ss_ret ?_)
              refine ee_catT ?_
              refine ee_tupleL c (i := 4) rfl mb.tuple ?_
              refine ee_lc c [("_law_x", 2), ("_law_y", 3)] (G' := []) (V' := [2, 3, 5]) (by rw [hsc]; decide +kernel) (by rw [hsc]; decide +kernel) ?_
              refine ei_lst ?_
              refine ee_var c (i := 6) rfl rfl rfl ?_
              refine ⟨_, _, rfl, (by repeat (first | exact Has.here | apply Has.there)), ?_⟩
              intro p18
              refine ⟨fun i st => st = ⟨p18, true, .lst (((((nzx ps).map hdv).take i).map fun p => ((p.1, p.2.fmod (low ps)) : V2)).map dV)⟩ :: [⟨p14, true, .lst (((nzx ps).map hdv).map dV)⟩, ⟨pp, true, .lst (ps.map dV)⟩], rfl, fun _ _ _ e => by rw [e]; exact .there .here, ?_, ?_⟩
              · rintro i d st2 hd rfl Xp18 hX
                obtain ⟨v, hv, rfl⟩ := getMap hd
                refine eg_tup hX.2 (n := 2) ?_ rfl
                refine egs_cons ?_
                refine eg_name hX.2 (i := 2) rfl rfl (by decide) (.there (.there .here)) ?_
                refine egs_cons ?_
                refine eg_name hX.2 (i := 3) rfl rfl (by decide) (.there (.there (.there .here))) ?_
                refine egs_nil ?_
                intro Xp18 hX
                refine ee_tup ?_
                refine ea_cons ?_
                refine ee_var hX.2 (i := 2) rfl rfl rfl ?_
                refine ea_cons ?_
                refine ee_mod ?_
                refine ee_var hX.2 (i := 3) rfl rfl rfl ?_
                refine ee_var hX.2 (i := 5) rfl rfl rfl ?_
                refine ⟨_, _, rfl, rfl, h17, ?_⟩
                refine ea_nil ?_
                refine ⟨Nat.le_of_ble_eq_true rfl, ?_⟩
                refine ⟨_, _, .here, by rw [List.map_map]; exact lenTake hv (by rw [List.length_map]; have := sizeLine_big; omega), ?_⟩
                show _ = _
                rw [takeS hv, List.map_append, List.map_append]; rfl
              · rintro st2 rfl
                rw [List.length_map, List.take_length]
                refine ⟨_, _, rfl, (by repeat (first | exact Has.here | apply Has.there)), ?_⟩
                refine ee_tup ?_
                refine ea_cons ?_
                refine ee_tup ?_
                refine ea_cons ?_
                refine ee_int ?_
                refine ea_cons ?_
                refine ee_var c (i := 5) rfl rfl rfl ?_
                refine ea_nil ?_
                refine ⟨Nat.le_of_ble_eq_true rfl, ?_⟩
                refine ea_nil ?_
                refine ⟨Nat.le_of_ble_eq_true rfl, ?_⟩
                refine ⟨_, _, rfl, rfl, by rw [List.length_map, List.length_map, List.length_map]; have := sizeLine_big; simp; omega, ?_⟩
                exact .pure ⟨⟨_, by rw [← fin2 hc h17]; unfold dVs; rw [List.map_append]; rfl, hQ.fin hc hbS⟩, rfl⟩
end G
end
section
set_option Elab.async false
set_option linter.all false
set_option maxRecDepth 100000
set_option maxHeartbeats 4000000
/-! LG: the law's own group search ends. -/
namespace G
open PySem L2
def box : List V2 := (List.range 341).flatMap fun i => (List.range 341).map fun j => (((i : Nat) : Int) - 170, ((j : Nat) : Int) - 170)
theorem mem_box {v : V2} (h : Ab 170 v) : v ∈ box := by
  unfold box
  rw [List.mem_flatMap]
  obtain ⟨h1, h2⟩ := h
  refine ⟨(v.1 + 170).toNat, List.mem_range.mpr (by omega), List.mem_map.mpr ⟨(v.2 + 170).toNat, List.mem_range.mpr (by omega), ?_⟩⟩
  refine v2_ext ?_ ?_
  · show (((v.1 + 170).toNat : Nat) : Int) - 170 = v.1; omega
  · show (((v.2 + 170).toNat : Nat) : Int) - 170 = v.2; omega
def outs (b : List V2) : Nat := (box.filter fun v => decide (red b v ≠ (0, 0))).length
theorem filter_le {α : Type} {p q : α → Bool} : ∀ {l : List α}, (∀ x ∈ l, p x = true → q x = true) → (l.filter p).length ≤ (l.filter q).length
  | [], _ => Nat.le_refl _
  | x :: l, h => by
    have ih := filter_le (l := l) fun y hy => h y (List.mem_cons_of_mem _ hy)
    rw [List.filter_cons, List.filter_cons]
    have hx := h x List.mem_cons_self
    cases hp : p x <;> cases hq : q x
    · exact ih
    · simp; omega
    · rw [hp, hq] at hx; cases hx rfl
    · simp; omega
theorem filter_lt {α : Type} {p q : α → Bool} : ∀ {l : List α} {a : α}, (∀ x ∈ l, p x = true → q x = true) → a ∈ l → q a = true → p a = false → (l.filter p).length < (l.filter q).length
  | x :: l, a, h, ha, h1, h2 => by
    have hl := fun y hy => h y (List.mem_cons_of_mem x hy)
    rw [List.filter_cons, List.filter_cons]
    rcases List.mem_cons.mp ha with rfl | ha
    · rw [h1, h2]
      have := filter_le (l := l) hl
      simp; omega
    · have ih := filter_lt (l := l) hl ha h1 h2
      have hx := h x List.mem_cons_self
      cases hp : p x <;> cases hq : q x
      · exact ih
      · simp; omega
      · rw [hp, hq] at hx; cases hx rfl
      · simp; omega
theorem outs_lt {b c : List V2} (nb : Nf b) (nc : Nf c) (h : ∀ u, Sp b u → Sp c u) {v : V2} (hv : Ab 170 v) (h1 : ¬ Sp b v) (h2 : Sp c v) : outs c < outs b := by
  refine filter_lt (a := v) (fun x _ hx => ?_) (mem_box hv) ?_ ?_
  · simp only [decide_eq_true_eq] at hx ⊢
    exact fun e => hx ((red_eq0 nc).mpr (h x ((red_eq0 nb).mp e)))
  · simp only [decide_eq_true_eq]
    exact fun e => h1 ((red_eq0 nb).mp e)
  · simp only [decide_eq_false_iff_not, Classical.not_not]
    exact (red_eq0 nc).mpr h2
def kvV (fs : List Sy) : List (Int × D) := fs.map fun s => (((s.1.val : Nat) : Int), dV s.2)
theorem kvV_find : ∀ (ss : List Sy) (k : Fin 8), (kvV ss).lookup ((k.val : Nat) : Int) = (ss.find? (fun s => s.1 == k)).map fun s => dV s.2
  | [], _ => rfl
  | s :: r, k => by
    show List.lookup _ ((((s.1.val : Nat) : Int), dV s.2) :: kvV r) = _
    rw [List.lookup_cons, List.find?_cons]
    by_cases h : s.1 = k
    · subst h; simp
    · have h1 : (((k.val : Nat) : Int) == ((s.1.val : Nat) : Int)) = false := by
        rw [beq_eq_false_iff_ne]; intro e; exact h (Fin.ext (by omega))
      have h2 : (s.1 == k) = false := by rw [beq_eq_false_iff_ne]; exact h
      rw [h1, h2]
      exact kvV_find r k
theorem kvV_none {ss : List Sy} {k : Fin 8} (h : (kvV ss).lookup ((k.val : Nat) : Int) = none) : ∀ s ∈ ss, s.1 ≠ k := by
  rw [kvV_find] at h
  intro s hs e
  have := List.find?_eq_none.mp (Option.map_eq_none_iff.mp h) s hs
  simp [e] at this
theorem kvV_some {ss : List Sy} {k : Fin 8} {d : D} (h : (kvV ss).lookup ((k.val : Nat) : Int) = some d) : ∃ s ∈ ss, s.1 = k := by
  rw [kvV_find] at h
  cases hf : ss.find? (fun s => s.1 == k) with
  | none => rw [hf] at h; cases h
  | some t => exact ⟨t, List.mem_of_find?_eq_some hf, by simpa using List.find?_some hf⟩
theorem kvV_get {ss : List Sy} {k : Fin 8} (h : ∃ s ∈ ss, s.1 = k) : ∃ s ∈ ss, (kvV ss).lookup ((k.val : Nat) : Int) = some (dV s.2) := by
  rw [kvV_find]
  cases hf : ss.find? (fun s => s.1 == k) with
  | none =>
    obtain ⟨s, hs, e⟩ := h
    have := List.find?_eq_none.mp hf s hs
    simp [e] at this
  | some t => exact ⟨t, List.mem_of_find?_eq_some hf, rfl⟩
theorem kvV_snoc (ss : List Sy) (s : Sy) : kvV ss ++ [(((s.1.val : Nat) : Int), dV s.2)] = kvV (ss ++ [s]) := by unfold kvV; rw [List.map_append]; rfl
/-- the state of the search -/
structure GI (fs : List Sy) (b : List V2) : Prop where
  nd : (fs.map Prod.fst).Nodup
  bd : ∀ s ∈ fs, Ab (fs.length * 10) s.2
  nf : Nf b
  ws : ∃ ws : List V2, (∀ w ∈ ws, Ab 170 w) ∧ ∀ u, Sp b u ↔ Sp ws u
theorem GI.len {fs : List Sy} {b : List V2} (h : GI fs b) : fs.length ≤ 8 := by have := fin_le _ h.nd; rwa [List.length_map] at this
theorem GI.ab {fs : List Sy} {b : List V2} (h : GI fs b) {s : Sy} (hs : s ∈ fs) : Ab 80 s.2 := (h.bd s hs).mono (by have := h.len; omega)
theorem GI.nb {fs : List Sy} {b : List V2} (h : GI fs b) : ∃ ws, NB 8 b ws := by
  obtain ⟨ws, h1, h2⟩ := h.ws
  exact ⟨ws, nb_of h.nf h2 fun v hv => ab_bv (h1 v hv) (by decide)⟩
def mea (fs : List Sy) (b : List V2) : Nat := (8 - fs.length) + outs b
theorem GI.init : GI [one] [] := ⟨by simp, fun s hs => by simp at hs; subst hs; exact ⟨Nat.zero_le _, Nat.zero_le _⟩, .z, [], fun w hw => (nomatch hw), fun u => Iff.rfl⟩
theorem GI.new {fs : List Sy} {b : List V2} (h : GI fs b) {s : Sy} (hn : ∀ t ∈ fs, t.1 ≠ s.1) (hb : Ab ((fs.length + 1) * 10) s.2) : GI (fs ++ [s]) b ∧ mea (fs ++ [s]) b < mea fs b := by
  have g : GI (fs ++ [s]) b := by
    refine ⟨?_, fun t ht => ?_, h.nf, h.ws⟩
    · rw [List.map_append, List.nodup_append]
      refine ⟨h.nd, by simp, fun a ha c hc e => ?_⟩
      simp at hc
      subst hc
      obtain ⟨t, ht, e2⟩ := List.mem_map.mp ha
      exact hn t ht (e2.trans e)
    · rw [List.length_append, List.length_singleton]
      rcases List.mem_append.mp ht with ht | ht
      · exact (h.bd t ht).mono (by omega)
      · simp at ht; subst ht; exact hb
  refine ⟨g, ?_⟩
  have := g.len
  rw [List.length_append, List.length_singleton] at this
  unfold mea
  rw [List.length_append, List.length_singleton]
  omega
theorem GI.step {fs : List Sy} {b c : List V2} (h : GI fs b) {v : V2} (hv : Ab 170 v) (hn : ¬ Sp b v) (nc : Nf c) (hc : ∀ u, Sp c u ↔ Sp (b ++ [v]) u) : GI fs c ∧ mea fs c < mea fs b := by
  obtain ⟨ws, h1, h2⟩ := h.ws
  refine ⟨⟨h.nd, h.bd, nc, ws ++ [v], fun w hw => ?_, fun u => ?_⟩, ?_⟩
  · rcases List.mem_append.mp hw with hw | hw
    · exact h1 w hw
    · simp at hw; subst hw; exact hv
  · rw [hc]
    refine sp_eq ?_ ?_ u
    · intro x hx
      rcases List.mem_append.mp hx with hx | hx
      · exact ((h2 x).mp (.mem hx)).mono fun y hy => List.mem_append_left _ hy
      · exact .mem (List.mem_append_right _ hx)
    · intro x hx
      rcases List.mem_append.mp hx with hx | hx
      · exact ((h2 x).mpr (.mem hx)).mono fun y hy => List.mem_append_left _ hy
      · exact .mem (List.mem_append_right _ hx)
  · have := outs_lt h.nf nc (fun u hu => (hc u).mpr (hu.mono fun y hy => List.mem_append_left _ hy)) hv hn ((hc v).mpr (.mem (by simp)))
    unfold mea; omega
def imgsB (ks : List (Fin 8)) (b : List V2) : List V2 := b ++ ks.flatMap fun k => b.map (lin k)
theorem imgsB_sp {ks : List (Fin 8)} {b ws : List V2} (h : ∀ u, Sp b u ↔ Sp ws u) (u : V2) : Sp (imgsB ks b) u → Sp (imgsB ks ws) u := by
  refine Sp.sub_of fun x hx => ?_
  unfold imgsB at *
  rcases List.mem_append.mp hx with hx | hx
  · exact ((h x).mp (.mem hx)).mono fun y hy => List.mem_append_left _ hy
  · obtain ⟨k, hk, hx⟩ := List.mem_flatMap.mp hx
    obtain ⟨v, hv, rfl⟩ := List.mem_map.mp hx
    exact (Sp.lin k ((h v).mp (.mem hv))).mono fun y hy => List.mem_append_right _ (List.mem_flatMap.mpr ⟨k, hk, hy⟩)
theorem GI.imgs {fs : List Sy} {b c c' : List V2} {ks : List (Fin 8)} (h : GI fs b) (nc : Nf c) (hc : ∀ u, Sp c u ↔ Sp (imgsB ks b) u) (hne : c ≠ b) (nc' : Nf c') (hc' : ∀ u, Sp c' u ↔ Sp (imgsB ks b) u) : GI fs c' ∧ mea fs c' < mea fs b := by
  obtain rfl : c' = c := nc'.uniq nc fun u => (hc' u).trans (hc u).symm
  obtain ⟨ws, h1, h2⟩ := h.ws
  have hw1 : ∀ w ∈ imgsB ks ws, Ab 170 w := fun w hw => by
    rcases List.mem_append.mp hw with hw | hw
    · exact h1 w hw
    · obtain ⟨k, hk, hw⟩ := List.mem_flatMap.mp hw
      obtain ⟨v, hv, rfl⟩ := List.mem_map.mp hw
      exact (h1 v hv).lin k
  have hw2 : ∀ u, Sp c' u ↔ Sp (imgsB ks ws) u := fun u => (hc u).trans ⟨imgsB_sp h2 u, imgsB_sp (fun u => (h2 u).symm) u⟩
  refine ⟨⟨h.nd, h.bd, nc, _, hw1, hw2⟩, ?_⟩
  have hsub : ∀ u, Sp b u → Sp c' u := fun u hu => (hc u).mpr (hu.mono fun y hy => List.mem_append_left _ hy)
  have ⟨v, hv, hvn⟩ : ∃ v ∈ imgsB ks ws, ¬ Sp b v := by
    apply Classical.byContradiction
    intro hcon
    refine hne (nc.uniq h.nf fun u => ⟨fun hu => ?_, hsub u⟩)
    exact Sp.sub_of (fun x hx => Classical.byContradiction fun z => hcon ⟨x, hx, z⟩) ((hw2 u).mp hu)
  have := outs_lt h.nf nc hsub (hw1 v hv) hvn ((hw2 v).mpr (.mem hv))
  unfold mea; omega
end G
namespace G
open PySem L2
theorem someK {vs : List V2} {K : Nat} (h : ∀ v ∈ vs, v.1.natAbs ≤ K) : (∀ v ∈ vs, v.1 = 0) ∨ ∃ v ∈ vs, v.1 ≠ 0 ∧ v.1.natAbs ≤ K := by
  by_cases hz : ∀ v ∈ vs, v.1 = 0
  · exact .inl hz
  · refine .inr (Classical.byContradiction fun hc => hz fun v hv => Classical.byContradiction fun h0 => hc ⟨v, hv, h0, h v hv⟩)
theorem GI.bl {fs : List Sy} {b : List V2} (h : GI fs b) : BL 18 b := by
  obtain ⟨ws, hn⟩ := h.nb
  exact hn.bL
theorem GI.x8 {fs : List Sy} {b : List V2} (h : GI fs b) {v : V2} (hv : v ∈ b) : v.1.natAbs ≤ 256 := by
  obtain ⟨ws, hn⟩ := h.nb
  have := (hn.bl v hv).1
  unfold Bt at this
  omega
theorem GI.app {fs : List Sy} {b : List V2} (h : GI fs b) {v : V2} (hv : Ab 170 v) : BL 18 (b ++ [v]) ∧ (b ++ [v]).length ≤ 50 ∧ ((∀ x ∈ b ++ [v], x.1 = 0) ∨ ∃ x ∈ b ++ [v], x.1 ≠ 0 ∧ x.1.natAbs ≤ 4096) := by
  refine ⟨fun x hx => ?_, by have := h.nf.len; simp; omega, someK fun x hx => ?_⟩
  · rcases List.mem_append.mp hx with hx | hx
    · exact h.bl x hx
    · simp at hx; subst hx; exact (ab_bv (n := 8) hv (by decide)).mono (by omega)
  · rcases List.mem_append.mp hx with hx | hx
    · exact Nat.le_trans (h.x8 hx) (by decide)
    · simp at hx; subst hx; exact Nat.le_trans hv.1 (by decide)
theorem imgsB_len (ks : List (Fin 8)) (b : List V2) : (imgsB ks b).length = b.length + ks.length * b.length := by
  unfold imgsB
  rw [List.length_append, len_flat lin b ks]
theorem imgsB_snoc (ks : List (Fin 8)) (k : Fin 8) (b : List V2) : imgsB (ks ++ [k]) b = imgsB ks b ++ b.map (lin k) := by
  unfold imgsB
  rw [List.flatMap_append, List.append_assoc]; simp
theorem GI.img {fs : List Sy} {b : List V2} (h : GI fs b) {ks : List (Fin 8)} (hk : ks.length ≤ 8) : BL 18 (imgsB ks b) ∧ (imgsB ks b).length ≤ 50 ∧ ((∀ x ∈ imgsB ks b, x.1 = 0) ∨ ∃ x ∈ imgsB ks b, x.1 ≠ 0 ∧ x.1.natAbs ≤ 4096) := by
  obtain ⟨ws, hn⟩ := h.nb
  have hl := h.nf.len
  refine ⟨fun x hx => ?_, ?_, ?_⟩
  · rcases List.mem_append.mp hx with hx | hx
    · exact h.bl x hx
    · obtain ⟨k, hk, hx⟩ := List.mem_flatMap.mp hx
      obtain ⟨v, hv, rfl⟩ := List.mem_map.mp hx
      exact (h.bl v hv).lin k
  · rw [imgsB_len]
    have : ks.length * b.length ≤ 8 * 2 := Nat.mul_le_mul hk hl
    omega
  · by_cases hb : b.length ≤ 1
    · refine someK fun x hx => ?_
      have h1 : ∀ v ∈ b, BV 8 v := hn.b1 hb
      have h2 : BV 8 x := by
        rcases List.mem_append.mp hx with hx | hx
        · exact h1 x hx
        · obtain ⟨k, hk, hx⟩ := List.mem_flatMap.mp hx
          obtain ⟨v, hv, rfl⟩ := List.mem_map.mp hx
          exact (h1 v hv).lin k
      have := h2.1
      unfold Bt at this
      omega
    · have nf := h.nf
      cases nf with
      | z => simp at hb
      | v _ => simp at hb
      | h _ => simp at hb
      | @f a y d ha hy hd =>
        refine .inr ⟨(a, y), by unfold imgsB; simp, by simp only; omega, Nat.le_trans (h.x8 (v := (a, y)) (by simp)) (by decide)⟩
end G
end
section
set_option Elab.async false
set_option linter.all false
set_option maxRecDepth 100000
set_option maxHeartbeats 4000000
namespace G
open PySem L2
variable {P : Program} {w : World} {K : PySem.W.Frag} {mg : Str → Option Value} {base : Heap}
def W__law_group : Spec := Pu fun ds p => ∃ gs : List Sy, ds = [dG gs] ∧ gs.length ≤ 6 ∧ (∀ g ∈ gs, Ab 10 g.2) ∧ p = fun d => ∃ b, d = .tup [dVs b, .any] ∧ Nf b ∧ BL 18 b
theorem ok__law_group {f : Addr} {fd : FuncData} (Fu : FunT K "_law_group" 78 [] f fd) (mb : MB mg) (mc : MC K mg) (f__law_basis : Fn P w K mg base "_law_basis" 2 1 [] W__law_basis) (f__law_product : Fn P w K mg base "_law_product" 3 2 [] W__law_product) (f__law_reduce : Fn P w K mg base "_law_reduce" 1 2 [] W__law_reduce) (f__law_linear : Fn P w K mg base "_law_linear" 1 2 [] W__law_linear) : FnOk P w K mg base CX0 4 f fd ["_law_generators_here"] (spW K 1 W__law_group) := by
  refine fnok_mk (N := ["_law_generators_here", "_law_basis_here", "_law_found", "_law_is_open", "_law_kind", "_law_spot", "_law_generator", "_law_there", "_law_old", "_law_step", "_law_steps"]) (Gs := ["list", "_law_product", "_law_reduce", "_law_basis", "tuple", "sorted"]) (Vi := [0, 1, 2, 3, 4, 5, 6, 7, 8, 9, 10]) Fu ⟨rfl, rfl, rfl, by decide +kernel, rfl, by decide +kernel, by decide +kernel⟩ (by decide +kernel) rfl ?_
  rintro X F want ds R c hsc ⟨rfl, p, ⟨gs, rfl, hg6, hgb, rfl⟩, rfl⟩ hl hF
  show SL X F _ [some _, none, none, none, none, none, none, none, none, none, none] _ _ _
  refine sl_cons (ss_asg (vs := [1, 2, 3]) ?_ (hw := swC (y := "_law_basis_here") (.head _) (by rw [hsc]; decide)))
  refine ee_tup ?_
  refine ea_cons ?_
  refine ee_tup ?_
  refine ea_nil ?_
  refine ⟨Nat.le_of_ble_eq_true rfl, ?_⟩
  refine ea_cons ?_
  refine ee_disp1 c fun p1 => ?_
  refine ee_int ?_
  refine ee_tup ?_
  refine ea_cons ?_
  refine ee_int ?_
  refine ea_cons ?_
  refine ee_int ?_
  refine ea_nil ?_
  refine ⟨Nat.le_of_ble_eq_true rfl, ?_⟩
  refine ⟨_, _, rfl, (by repeat (first | exact Put.here | apply Put.there)), ?_⟩
  refine ea_cons ?_
  refine ee_bl ?_
  refine ea_nil ?_
  refine ⟨Nat.le_of_ble_eq_true rfl, ?_⟩
  refine eg_tup c (n := 3) ?_ rfl
  refine egs_cons ?_
  refine eg_name c (i := 1) rfl rfl (by decide) (.there .here) ?_
  refine egs_cons ?_
  refine eg_name c (i := 2) rfl rfl (by decide) (.there (.there .here)) ?_
  refine egs_cons ?_
  refine eg_name c (i := 3) rfl rfl (by decide) (.there (.there (.there .here))) ?_
  refine egs_nil ?_
  refine sl_cons (ss_while c (fun m en st => ∃ (fs : List Sy) (b : List V2) (fl : Bool) (o4 o5 o6 o7 o8 o9 o10 : Option D), en = [some (dG gs), some (dVs b), some (.ref p1), some (.bl fl), o4, o5, o6, o7, o8, o9, o10] ∧ st = [⟨p1, true, .dic (kvV fs)⟩] ∧ GI fs b ∧ m = 2 * mea fs b + (if fl = true then 1 else 0)) ⟨_, [one], [], true, none, none, none, none, none, none, none, rfl, rfl, .init, rfl⟩ ?_)
  rintro m en1 st1 ⟨fs, b, fl, o4, o5, o6, o7, o8, o9, o10, rfl, rfl, hI, rfl⟩
  have hl8 := hI.len
  refine et_val ?_
  refine ee_var c (i := 3) rfl rfl rfl ?_
  refine ⟨_, rfl, ?_⟩
  cases fl
  · refine isF ?_
    refine sl_cons (ss_ret (ee_wk ?_))
    refine ee_tup ?_
    refine ea_cons ?_
    refine ee_var c (i := 1) rfl rfl rfl ?_
    refine ea_cons ?_
    refine ee_tupleL c (i := 4) rfl mb.tuple ?_
    refine ee_sortT c (i := 5) rfl mb.sorted ?_
    refine ee_lock (.here) fun HL hF => ?_
    refine ee_lc c [("_law_kind", 4), ("_law_spot", 5)] (G' := ["_law_reduce"]) (V' := [4, 1, 5]) (by rw [hsc]; decide +kernel) (by rw [hsc]; decide +kernel) ?_
    refine ei_items (tg := .Tuple [] 0 ⟨0, 0, 0, 0⟩) hF ?_
    refine ee_var c (i := 2) rfl rfl rfl ?_
    refine ⟨rfl, ?_⟩
    intro p2
    refine ⟨fun i st => st = [⟨p2, true, .lst (((fs.take i).map (redS b)).map dS)⟩, ⟨p1, false, .dic (kvV fs)⟩], rfl, fun _ _ _ _ => trivial, ?_, ?_⟩
    · rintro i d st2 hd rfl Xp2 hX
      obtain ⟨kv, hkv, rfl⟩ := getMap hd
      obtain ⟨s, hs, rfl⟩ := getMap hkv
      have hsb := hI.ab (List.mem_of_getElem? hs)
      refine eg_tup hX.2 (n := 2) ?_ rfl
      refine egs_cons ?_
      refine eg_name hX.2 (i := 4) rfl rfl (by decide) (.there (.there (.there (.there .here)))) ?_
      refine egs_cons ?_
      refine eg_name hX.2 (i := 5) rfl rfl (by decide) (.there (.there (.there (.there (.there .here))))) ?_
      refine egs_nil ?_
      intro Xp2 hX
      refine ee_catT ?_
      refine ee_tup ?_
      refine ea_cons ?_
      refine ee_var hX.2 (i := 4) rfl rfl rfl ?_
      refine ea_nil ?_
      refine ⟨Nat.le_of_ble_eq_true rfl, ?_⟩
      refine ee_pcall hX.2 (i := 0) f__law_reduce (by decide) rfl ?_
      refine ea_cons ?_
      refine ee_var hX.2 (i := 1) rfl rfl rfl ?_
      refine ea_cons ?_
      refine ee_var hX.2 (i := 5) rfl rfl rfl ?_
      refine ea_nil ?_
      refine ⟨_, ⟨b, s.2, rfl, hI.nf, fun v hv => (hI.bl v hv).mono (by omega), (ab_bv (n := 8) hsb (by decide)).mono (by omega), rfl⟩, rfl, ?_⟩
      rintro _ rfl
      refine ⟨_, _, rfl, rfl, Nat.le_of_ble_eq_true rfl, ?_⟩
      refine ⟨_, _, .here, by rw [List.map_map]; exact lenTake hs (by have := sizeLine_big; omega), ?_⟩
      show _ = _
      rw [takeS hs, List.map_append, List.map_append]; rfl
    · rintro st2 rfl
      rw [List.length_map, show (kvV fs).length = fs.length by rw [kvV, List.length_map], List.take_length, map_dS_tI]
      refine ⟨_, .there .here, ?_⟩
      refine ⟨_, (fs.map (redS b)).map lS, 3, rfl, (by repeat (first | exact Has.here | apply Has.there)), by rw [List.length_map, List.length_map]; omega, by decide, fun ns hns => by obtain ⟨m, _, rfl⟩ := List.mem_map.mp hns; rfl, fun pR nss hp hs => ?_⟩
      refine ⟨_, _, rfl, (by repeat (first | exact Has.here | apply Has.there)), ?_⟩
      refine ea_nil ?_
      refine ⟨Nat.le_of_ble_eq_true rfl, ?_⟩
      exact ⟨_, fun H v => at_wk3, .pure ⟨⟨b, rfl, hI.nf, hI.bl⟩, rfl⟩⟩
  · refine isT ?_
    refine sl_cons (ss_set c (i := 3) rfl rfl ?_)
    refine ee_bl ?_
    refine ⟨_, (.there (.there (.there .here))), ?_⟩
    refine sl_cons (ss_for c (vs := [4, 5]) ?_)
    refine ei_lst ?_
    refine ee_listItems c (i := 0) rfl mb.list ?_
    refine ee_var c (i := 2) rfl rfl rfl ?_
    refine ⟨_, _, _, rfl, (by repeat (first | exact Put.here | apply Put.there)), fun pL => ?_⟩
    refine ⟨_, _, rfl, (by repeat (first | exact Has.here | apply Has.there)), ?_⟩
    refine ⟨fun i en st => ∃ (fs1 : List Sy) (b1 : List V2) (fl1 : Bool) (o4 o5 o6 o7 o8 o9 : Option D), en = [some (dG gs), some (dVs b1), some (.ref p1), some (.bl fl1), o4, o5, o6, o7, o8, o9, o10] ∧ st = [⟨pL, true, .lst ((kvV fs).map fun kv => D.tup [.int kv.1, kv.2])⟩, ⟨p1, true, .dic (kvV fs1)⟩] ∧ GI fs1 b1 ∧ mea fs1 b1 + (if fl1 = true then 1 else 0) ≤ mea fs b ∧ fs.length ≤ fs1.length, ⟨fs, b, false, o4, o5, o6, o7, o8, o9, rfl, rfl, hI, by simp, Nat.le_refl _⟩, fun _ _ _ _ ⟨_, _, _, _, _, _, _, _, _, _, e, _⟩ => by rw [e]; exact .here, ?_, ?_⟩
    · rintro i d en2 st2 hd ⟨fs1, b1, fl1, o4, o5, o6, o7, o8, o9, rfl, rfl, hI1, hm1, hl1⟩
      obtain ⟨kv, hkv, rfl⟩ := getMap hd
      obtain ⟨s, hs, rfl⟩ := getMap hkv
      have hsm := List.mem_of_getElem? hs
      have hsb := hI.bd s hsm
      refine eg_tup c (n := 2) ?_ rfl
      refine egs_cons ?_
      refine eg_name c (i := 4) rfl rfl (by decide) (.there (.there (.there (.there .here)))) ?_
      refine egs_cons ?_
      refine eg_name c (i := 5) rfl rfl (by decide) (.there (.there (.there (.there (.there .here))))) ?_
      refine egs_nil ?_
      refine sl_cons (ss_for c (vs := [6]) ?_)
      refine ei_tup ?_
      refine ee_var c (i := 0) rfl rfl rfl ?_
      refine ⟨_, rfl, ?_⟩
      refine ⟨fun j en st => ∃ (fs1 : List Sy) (b1 : List V2) (fl1 : Bool) (o6 o7 o8 o9 : Option D), en = [some (dG gs), some (dVs b1), some (.ref p1), some (.bl fl1), some (dK s.1), some (dV s.2), o6, o7, o8, o9, o10] ∧ st = [⟨pL, true, .lst ((kvV fs).map fun kv => D.tup [.int kv.1, kv.2])⟩, ⟨p1, true, .dic (kvV fs1)⟩] ∧ GI fs1 b1 ∧ mea fs1 b1 + (if fl1 = true then 1 else 0) ≤ mea fs b ∧ fs.length ≤ fs1.length, ⟨fs1, b1, fl1, o6, o7, o8, o9, rfl, rfl, hI1, hm1, hl1⟩, fun _ _ _ _ _ => trivial, ?_, ?_⟩
      · rintro j d en2 st2 hd ⟨fs1, b1, fl1, o6, o7, o8, o9, rfl, rfl, hI1, hm1, hl1⟩
        obtain ⟨g, hg, rfl⟩ := getMap hd
        have hgm := List.mem_of_getElem? hg
        have hth : Ab ((fs1.length + 1) * 10) (mul s g).2 := (Ab.mul hsb (hgb g hgm)).mono (by omega)
        have hl18 := hI1.len
        refine eg_name c (i := 6) rfl rfl (by decide) (.there (.there (.there (.there (.there (.there .here)))))) ?_
        refine sl_cons (ss_set c (i := 7) rfl rfl ?_)
        refine ee_pcall c (i := 1) f__law_product (by decide) rfl ?_
        refine ea_cons ?_
        refine ee_catT ?_
        refine ee_tup ?_
        refine ea_cons ?_
        refine ee_var c (i := 4) rfl rfl rfl ?_
        refine ea_nil ?_
        refine ⟨Nat.le_of_ble_eq_true rfl, ?_⟩
        refine ee_var c (i := 5) rfl rfl rfl ?_
        refine ⟨_, _, rfl, rfl, Nat.le_of_ble_eq_true rfl, ?_⟩
        refine ea_cons ?_
        refine ee_var c (i := 6) rfl rfl rfl ?_
        refine ea_nil ?_
        refine ⟨_, ⟨s, g, rfl, rfl⟩, rfl, ?_⟩
        rintro _ rfl
        refine ⟨_, (.there (.there (.there (.there (.there (.there (.there .here))))))), ?_⟩
        refine sl_cons (ss_mono (N' := fun en st => ∃ (fs1 : List Sy) (fl1 : Bool), en = [some (dG gs), some (dVs b1), some (.ref p1), some (.bl fl1), some (dK s.1), some (dV s.2), some (dS g), some (dS (mul s g)), o8, o9, o10] ∧ st = [⟨pL, true, .lst ((kvV fs).map fun kv => D.tup [.int kv.1, kv.2])⟩, ⟨p1, true, .dic (kvV fs1)⟩] ∧ GI fs1 b1 ∧ mea fs1 b1 + (if fl1 = true then 1 else 0) ≤ mea fs b ∧ fs.length ≤ fs1.length ∧ ∃ t ∈ fs1, t.1 = kmul s.1 g.1) (ss_if ?_) ?_)
        · refine et_dnin c ?_
          refine ee_ixT ?_
          refine ee_var c (i := 7) rfl rfl rfl ?_
          refine ee_int ?_
          refine ⟨_, _, _, rfl, rfl, rfl, ?_⟩
          refine ee_var c (i := 2) rfl rfl rfl ?_
          refine ⟨_, _, _, rfl, rfl, (by repeat (first | exact Has.here | apply Has.there)), ?_, ?_⟩
          · intro h4
            refine isT ?_
            refine sl_cons (ss_asg (vs := [3]) ?_ (hw := swN (by rfl)))
            refine ee_tup ?_
            refine ea_cons ?_
            refine ee_from1 ?_
            refine ee_var c (i := 7) rfl rfl rfl ?_
            refine ⟨_, rfl, ?_⟩
            refine ea_cons ?_
            refine ee_bl ?_
            refine ea_nil ?_
            refine ⟨Nat.le_of_ble_eq_true rfl, ?_⟩
            refine eg_tup c (n := 2) ?_ rfl
            refine egs_cons ?_
            refine eg_dput c ?_
            refine ee_var c (i := 2) rfl rfl rfl ?_
            refine ee_ixT ?_
            refine ee_var c (i := 7) rfl rfl rfl ?_
            refine ee_int ?_
            refine ⟨_, _, _, rfl, rfl, rfl, ?_⟩
            have hno := kvV_none (k := kmul s.1 g.1) h4
            have hnew := hI1.new (s := mul s g) hno hth
            refine ⟨_, _, _, _, rfl, rfl, (by repeat (first | exact Put.here | apply Put.there)), h4, by rw [kvV, List.length_map]; have := sizeLine_big; omega, ?_⟩
            refine egs_cons ?_
            refine eg_name c (i := 3) rfl rfl (by decide) (.there (.there (.there .here))) ?_
            refine egs_nil ?_
            refine sl_nil ?_
            refine ⟨fs1 ++ [mul s g], true, rfl, by rw [← kvV_snoc]; rfl, hnew.1, ?_, by simp; omega, mul s g, by simp, rfl⟩
            have := hnew.2
            have h0 := Nat.zero_le (if fl1 = true then 1 else 0)
            simp only [if_true]; omega
          · intro dh4 h4
            refine isF ?_
            refine sl_nil ?_
            exact ⟨fs1, fl1, rfl, rfl, hI1, hm1, hl1, kvV_some h4⟩
        · rintro _ _ ⟨fs1, fl1, rfl, rfl, hI1, hm1, hl1, hex⟩
          refine sl_cons (ss_set c (i := 8) rfl rfl ?_)
          refine ee_dget c ?_
          refine ee_var c (i := 2) rfl rfl rfl ?_
          refine ee_ixT ?_
          refine ee_var c (i := 7) rfl rfl rfl ?_
          refine ee_int ?_
          refine ⟨_, _, _, rfl, rfl, rfl, ?_⟩
          obtain ⟨t, htm, htl⟩ := kvV_get hex
          have htb := hI1.ab htm
          have hsb2 := hI.ab hsm
          have hth2 : Ab 90 (mul s g).2 := (Ab.mul hsb2 (hgb g hgm)).mono (by omega)
          have hvb : Ab 170 (vsub (mul s g).2 t.2) := ⟨by show ((mul s g).2.1 - t.2.1).natAbs ≤ 170; have := hth2.1; have := htb.1; omega, by show ((mul s g).2.2 - t.2.2).natAbs ≤ 170; have := hth2.2; have := htb.2; omega⟩
          refine ⟨_, _, _, dV t.2, rfl, rfl, (by repeat (first | exact Has.here | apply Has.there)), htl, ?_⟩
          refine ⟨_, (.there (.there (.there (.there (.there (.there (.there (.there .here)))))))), ?_⟩
          refine sl_cons (ss_set c (i := 9) rfl rfl ?_)
          refine ee_tup ?_
          refine ea_cons ?_
          refine ee_sub ?_
          refine ee_ixT ?_
          refine ee_var c (i := 7) rfl rfl rfl ?_
          refine ee_int ?_
          refine ⟨_, _, _, rfl, rfl, rfl, ?_⟩
          refine ee_ixT ?_
          refine ee_var c (i := 8) rfl rfl rfl ?_
          refine ee_int ?_
          refine ⟨_, _, _, rfl, rfl, rfl, ?_⟩
          refine ⟨_, _, rfl, rfl, ?_⟩
          refine ea_cons ?_
          refine ee_sub ?_
          refine ee_ixT ?_
          refine ee_var c (i := 7) rfl rfl rfl ?_
          refine ee_int ?_
          refine ⟨_, _, _, rfl, rfl, rfl, ?_⟩
          refine ee_ixT ?_
          refine ee_var c (i := 8) rfl rfl rfl ?_
          refine ee_int ?_
          refine ⟨_, _, _, rfl, rfl, rfl, ?_⟩
          refine ⟨_, _, rfl, rfl, ?_⟩
          refine ea_nil ?_
          refine ⟨Nat.le_of_ble_eq_true rfl, ?_⟩
          refine ⟨_, (.there (.there (.there (.there (.there (.there (.there (.there (.there .here))))))))), ?_⟩
          refine sl_cons (ss_if ?_)
          refine et_neD c ?_
          refine ee_pcall c (i := 2) f__law_reduce (by decide) rfl ?_
          refine ea_cons ?_
          refine ee_var c (i := 1) rfl rfl rfl ?_
          refine ea_cons ?_
          refine ee_var c (i := 9) rfl rfl rfl ?_
          refine ea_nil ?_
          refine ⟨_, ⟨b1, vsub (mul s g).2 t.2, rfl, hI1.nf, fun v hv => (hI1.bl v hv).mono (by omega), (ab_bv (n := 8) hvb (by decide)).mono (by omega), rfl⟩, rfl, ?_⟩
          rintro _ rfl
          refine ee_tup ?_
          refine ea_cons ?_
          refine ee_int ?_
          refine ea_cons ?_
          refine ee_int ?_
          refine ea_nil ?_
          refine ⟨Nat.le_of_ble_eq_true rfl, ?_⟩
          refine ⟨by first | exact pl_dV _ | exact pl_dS _ | exact pl_dVs _ | exact pl_dG _ | rfl, by first | exact pl_dV _ | exact pl_dS _ | exact pl_dVs _ | exact pl_dG _ | rfl, ?_⟩
          refine ⟨fun h5 => ?_, fun h5 => ?_⟩
          · refine isT ?_
            refine sl_cons (ss_asg (vs := [1, 3]) ?_ (hw := swC (y := "_law_basis_here") (.head _) (by rw [hsc]; decide)))
            refine ee_tup ?_
            refine ea_cons ?_
            refine ee_call c (i := 3) f__law_basis (by decide) rfl ?_
            refine ea_cons ?_
            refine ee_catL ?_
            refine ee_listT c (i := 0) rfl mb.list ?_
            refine ee_var c (i := 1) rfl rfl rfl ?_
            refine ⟨_, rfl, fun p6 => ?_⟩
            refine ee_lst ?_
            refine ea_cons ?_
            refine ee_var c (i := 9) rfl rfl rfl ?_
            refine ea_nil ?_
            refine ⟨Nat.le_of_ble_eq_true rfl, fun p7 => ?_⟩
            refine ⟨_, _, _, [dV (vsub (mul s g).2 t.2)], _, _, rfl, rfl, (by repeat (first | exact Put.here | apply Put.there)), (by repeat (first | exact Put.here | apply Put.there)), by rw [List.length_map]; have := hI1.nf.len; have := sizeLine_big; simp; omega, fun pC => ?_⟩
            rw [show ∀ l : List D, l ++ [dV (vsub (mul s g).2 t.2)] = l ++ [vsub (mul s g).2 t.2].map dV from fun _ => rfl, ← List.map_append]
            refine ea_nil ?_
            obtain ⟨k1, k2, k3⟩ := hI1.app hvb
            refine ⟨_, _, _, .rd (by repeat (first | exact OutA.here | apply OutA.there)) (.nil _), ⟨18, 4096, b1 ++ [vsub (mul s g).2 t.2], _, rfl, rfl, by omega, by omega, k2, k1, k3, rfl⟩, rfl, ?_⟩
            rintro _ _ ⟨⟨b2, rfl, hN⟩, rfl⟩
            have hstep := hI1.step hvb (fun z => h5 (congrArg dV ((red_eq0 hI1.nf).mpr z))) hN.nf hN.sp
            refine ea_cons ?_
            refine ee_bl ?_
            refine ea_nil ?_
            refine ⟨Nat.le_of_ble_eq_true rfl, ?_⟩
            refine eg_tup c (n := 2) ?_ rfl
            refine egs_cons ?_
            refine eg_name c (i := 1) rfl rfl (by decide) (.there .here) ?_
            refine egs_cons ?_
            refine eg_name c (i := 3) rfl rfl (by decide) (.there (.there (.there .here))) ?_
            refine egs_nil ?_
            refine sl_st (.cons _ (.cons _ (.cons _ (.refl _)))) ?_
            refine sl_nil ?_
            refine sl_nil ?_
            refine ⟨fs1, b2, true, _, _, _, _, rfl, rfl, hstep.1, ?_, hl1⟩
            have := hstep.2
            have h0 := Nat.zero_le (if fl1 = true then 1 else 0)
            simp only [if_true]; omega
          · refine isF ?_
            refine sl_nil ?_
            refine sl_nil ?_
            exact ⟨fs1, b1, fl1, _, _, _, _, rfl, rfl, hI1, hm1, hl1⟩
      · rintro en2 st2 ⟨fs1, b1, fl1, o6, o7, o8, o9, rfl, rfl, hI1, hm1, hl1⟩
        refine sl_nil ?_
        exact ⟨fs1, b1, fl1, _, _, _, _, _, _, rfl, rfl, hI1, hm1, hl1⟩
    · rintro en2 st2 ⟨fs1, b1, fl1, o4, o5, o6, o7, o8, o9, rfl, rfl, hI1, hm1, hl1⟩
      refine sl_st (.cons _ (.refl _)) ?_
      refine sl_cons (ss_set c (i := 10) rfl rfl ?_)
      refine ee_listT c (i := 0) rfl mb.list ?_
      refine ee_var c (i := 1) rfl rfl rfl ?_
      refine ⟨_, rfl, fun p8 => ?_⟩
      refine ⟨_, (.there (.there (.there (.there (.there (.there (.there (.there (.there (.there .here)))))))))), ?_⟩
      refine sl_cons (ss_for c (vs := [4]) ?_)
      refine ei_lst ?_
      refine ee_listD c (i := 0) rfl mb.list ?_
      refine ee_var c (i := 2) rfl rfl rfl ?_
      refine ⟨_, _, _, rfl, (by repeat (first | exact Put.here | apply Put.there)), fun pK => ?_⟩
      refine ⟨_, _, rfl, (by repeat (first | exact Has.here | apply Has.there)), ?_⟩
      refine ⟨fun i en st => ∃ (o4 : Option D), en = [some (dG gs), some (dVs b1), some (.ref p1), some (.bl fl1), o4, o5, o6, o7, o8, o9, some (.ref p8)] ∧ st = [⟨pK, true, .lst ((kvV fs1).map fun kv => D.int kv.1)⟩, ⟨p8, true, .lst ((imgsB ((fs1.map Prod.fst).take i) b1).map dV)⟩, ⟨p1, true, .dic (kvV fs1)⟩], ⟨_, rfl, by simp [imgsB]⟩, fun _ _ _ _ ⟨_, _, e⟩ => by rw [e]; exact .here, ?_, ?_⟩
      · rintro i d en2 st2 hd ⟨o4, rfl, rfl⟩
        obtain ⟨kv, hkv, rfl⟩ := getMap hd
        obtain ⟨s, hs, rfl⟩ := getMap hkv
        have hl18 := hI1.len
        have hks : (fs1.map Prod.fst)[i]? = some s.1 := by rw [List.getElem?_map, hs]; rfl
        have hil := getLt hs
        have hbl2 := hI1.nf.len
        refine eg_name c (i := 4) rfl rfl (by decide) (.there (.there (.there (.there .here)))) ?_
        refine sl_cons (ss_expr ?_)
        refine ee_extend ?_
        refine ee_var c (i := 10) rfl rfl rfl ?_
        refine ⟨_, _, rfl, (by repeat (first | exact Has.here | apply Has.there)), ?_⟩
        refine ee_lc c [("_law_step", 9)] (G' := ["_law_linear"]) (V' := [4, 9]) (by rw [hsc]; decide +kernel) (by rw [hsc]; decide +kernel) ?_
        refine ei_tup ?_
        refine ee_var c (i := 1) rfl rfl rfl ?_
        refine ⟨_, rfl, ?_⟩
        intro p10
        refine ⟨fun j st => st = [⟨p10, true, .lst (((b1.take j).map (lin s.1)).map dV)⟩, ⟨pK, true, .lst ((kvV fs1).map fun kv => D.int kv.1)⟩, ⟨p8, true, .lst ((imgsB ((fs1.map Prod.fst).take i) b1).map dV)⟩, ⟨p1, true, .dic (kvV fs1)⟩], rfl, fun _ _ _ _ => trivial, ?_, ?_⟩
        · rintro i d st2 hd rfl Xp10 hX
          rename_i i0
          obtain ⟨v, hv, rfl⟩ := getMap hd
          refine eg_name hX.2 (i := 9) rfl rfl (by decide) (.there (.there (.there (.there (.there (.there (.there (.there (.there .here))))))))) ?_
          intro Xp10 hX
          refine ee_pcall hX.2 (i := 0) f__law_linear (by decide) rfl ?_
          refine ea_cons ?_
          refine ee_var hX.2 (i := 4) rfl rfl rfl ?_
          refine ea_cons ?_
          refine ee_var hX.2 (i := 9) rfl rfl rfl ?_
          refine ea_nil ?_
          refine ⟨_, ⟨s.1, v, rfl, rfl⟩, rfl, ?_⟩
          rintro _ rfl
          refine ⟨_, _, .here, by rw [List.map_map]; exact lenTake hv (by have := sizeLine_big; omega), ?_⟩
          show _ = _
          rw [takeS hv, List.map_append, List.map_append]; rfl
        · rintro st2 rfl
          rw [List.length_map, List.take_length]
          have hlen : (imgsB ((fs1.map Prod.fst).take i) b1).length ≤ 18 := by
            rw [imgsB_len, List.length_take, List.length_map]
            have : min i fs1.length * b1.length ≤ 8 * 2 := Nat.mul_le_mul (by omega) hbl2
            omega
          refine ⟨_, _, _, _, _, rfl, (by repeat (first | exact Put.here | apply Put.there)), (by repeat (first | exact Put.here | apply Put.there)), by rw [List.length_map, List.length_map, List.length_map]; have := sizeLine_big; omega, ?_⟩
          refine sl_st (.cons _ (.refl _)) ?_
          refine sl_nil ?_
          exact ⟨_, rfl, by rw [takeS hks, imgsB_snoc, List.map_append]⟩
      · rintro en2 st2 ⟨o4, rfl, rfl⟩
        have ekv : (kvV fs1).length = (fs1.map Prod.fst).length := by unfold kvV; rw [List.length_map, List.length_map]
        rw [List.length_map, ekv, List.take_length]
        have hl18 := hI1.len
        obtain ⟨k1, k2, k3⟩ := hI1.img (ks := fs1.map Prod.fst) (by rw [List.length_map]; exact hl18)
        refine sl_cons (ss_if ?_)
        refine et_neD c ?_
        refine ee_call c (i := 3) f__law_basis (by decide) rfl ?_
        refine ea_cons ?_
        refine ee_var c (i := 10) rfl rfl rfl ?_
        refine ea_nil ?_
        refine ⟨_, _, _, .rd (by repeat (first | exact OutA.here | apply OutA.there)) (.nil _), ⟨18, 4096, imgsB (fs1.map Prod.fst) b1, _, rfl, rfl, by omega, by omega, k2, k1, k3, rfl⟩, rfl, ?_⟩
        rintro _ _ ⟨⟨c1, rfl, hN1⟩, rfl⟩
        refine ee_var c (i := 1) rfl rfl rfl ?_
        refine ⟨by first | exact pl_dV _ | exact pl_dS _ | exact pl_dVs _ | exact pl_dG _ | rfl, by first | exact pl_dV _ | exact pl_dS _ | exact pl_dVs _ | exact pl_dG _ | rfl, ?_⟩
        refine ⟨fun h11 => ?_, fun h11 => ?_⟩
        · refine isT ?_
          refine sl_cons (ss_asg (vs := [1, 3]) ?_ (hw := swC (y := "_law_basis_here") (.head _) (by rw [hsc]; decide)))
          refine ee_tup ?_
          refine ea_cons ?_
          refine ee_call c (i := 3) f__law_basis (by decide) rfl ?_
          refine ea_cons ?_
          refine ee_var c (i := 10) rfl rfl rfl ?_
          refine ea_nil ?_
          refine ⟨_, _, _, .rd (by repeat (first | exact OutA.here | apply OutA.there)) (.nil _), ⟨18, 4096, imgsB (fs1.map Prod.fst) b1, _, rfl, rfl, by omega, by omega, k2, k1, k3, rfl⟩, rfl, ?_⟩
          rintro _ _ ⟨⟨c2, rfl, hN2⟩, rfl⟩
          have himg := hI1.imgs hN1.nf hN1.sp (fun e => h11 (by rw [e])) hN2.nf hN2.sp
          refine ea_cons ?_
          refine ee_bl ?_
          refine ea_nil ?_
          refine ⟨Nat.le_of_ble_eq_true rfl, ?_⟩
          refine eg_tup c (n := 2) ?_ rfl
          refine egs_cons ?_
          refine eg_name c (i := 1) rfl rfl (by decide) (.there .here) ?_
          refine egs_cons ?_
          refine eg_name c (i := 3) rfl rfl (by decide) (.there (.there (.there .here))) ?_
          refine egs_nil ?_
          refine sl_st (.cons _ (.cons _ (.refl _))) ?_
          refine sl_nil ?_
          refine sl_nil ?_
          refine ⟨_, ?_, fs1, c2, true, _, _, _, _, _, _, _, rfl, rfl, himg.1, rfl⟩
          have := himg.2
          have h0 := Nat.zero_le (if fl1 = true then 1 else 0)
          simp only [if_true]; omega
        · refine isF ?_
          refine sl_st (.cons _ (.cons _ (.refl _))) ?_
          refine sl_nil ?_
          refine sl_nil ?_
          refine ⟨_, ?_, fs1, b1, fl1, _, _, _, _, _, _, _, rfl, rfl, hI1, rfl⟩
          cases fl1 <;> simp at * <;> omega
end G
end
section
set_option Elab.async false
set_option linter.all false
set_option maxRecDepth 100000
set_option maxHeartbeats 4000000
namespace G
open PySem L2
variable {P : Program} {w : World} {K : PySem.W.Frag} {mg : Str → Option Value} {base : Heap}
theorem ok__law_group_of_any_sort {f : Addr} {fd : FuncData} (Fu : FunT K "_law_group_of_any_sort" 95 [] f fd) (mb : MB mg) (mc : MC K mg) (f__law_group : Fn P w K mg base "_law_group" 4 1 [] W__law_group) (f__law_tiling : Fn P w K mg base "_law_tiling" 4 2 [] W__law_tiling) (f__law_any_group : Fn P w K mg base "_law_any_group" 5 1 [] W_grp) (f__law_named_group : Fn P w K mg base "_law_named_group" 5 1 [] W_grp) (f__law_draw : Fn P w K mg base "_law_draw" 1 2 [] W__law_draw) {fA fN : Addr} (gl__law_any_group : GlD K mg "_law_any_group" (.ref fA)) (gl__law_named_group : GlD K mg "_law_named_group" (.ref fN)) (vA : FV P w K mg base fA 5 1 W_grp) (vN : FV P w K mg base fN 5 1 W_grp) : FnOk P w K mg base CX0 6 f fd ["_law_source_here"] (spW K 1 W_grp) := by
  refine fnok_mk (N := ["_law_source_here", "_law_found", "_law_basis_here", "_law_is_wide"]) (Gs := ["_law_any_group", "_law_named_group", "_law_draw", "_law_group", "len", "_law_tiling"]) (Vi := [0, 1, 2, 3]) Fu ⟨rfl, rfl, rfl, by decide +kernel, rfl, by decide +kernel, by decide +kernel⟩ (by decide +kernel) rfl ?_
  rintro X F want ds R c hsc ⟨q, a0, b0, z0, rfl, rfl, hs0, rfl⟩ hl hF
  show SL X F _ [some _, none, none, none] _ _ _
  refine sl_cons (ss_set c (i := 1) rfl rfl ?_)
  refine ee_callE c (j := 5) (n := 1) (W := W_grp) (by decide) ?_
  refine ee_ixL ?_
  refine ee_lst ?_
  refine ea_cons ?_
  refine ee_glob c (j := 0) gl__law_any_group rfl ?_
  refine ea_cons ?_
  refine ee_glob c (j := 1) gl__law_named_group rfl ?_
  refine ea_nil ?_
  refine ⟨Nat.le_of_ble_eq_true rfl, fun p1 => ?_⟩
  refine ee_call c (i := 2) f__law_draw (by decide) rfl ?_
  refine ea_cons ?_
  refine ee_var c (i := 0) rfl rfl rfl ?_
  refine ea_cons ?_
  refine ee_int ?_
  refine ea_nil ?_
  refine ⟨_, _, _, .wr (by repeat (first | exact OutA.here | apply OutA.there)) (.nil _), ⟨q, _, _, _, _, rfl, rfl, by decide, by decide, hs0, rfl⟩, rfl, ?_⟩
  rintro _ _ ⟨r1, a1, b1, z1, rfl, hr1, hq1, rfl, hs1⟩
  refine ⟨_, _, _, .ref (if r1 = 0 then fA else fN), rfl, (by repeat (first | exact Has.here | apply Has.there)), rfl, ?_, ?_⟩
  · have e1 : r1 = 0 ∨ r1 = 1 := by omega
    rcases e1 with rfl | rfl <;> rfl
  refine ⟨_, rfl, (by split; exact vA; exact vN : FV P w K mg base (if r1 = 0 then fA else fN) 5 1 W_grp), ?_⟩
  refine ea_cons ?_
  refine ee_var c (i := 0) rfl rfl rfl ?_
  refine ea_nil ?_
  refine ⟨_, _, _, .wr (by repeat (first | exact OutA.here | apply OutA.there)) (.nil _), ⟨q, _, _, _, rfl, rfl, hs1, rfl⟩, rfl, ?_⟩
  rintro _ _ ⟨gs, a2, b2, z2, rfl, hgl, hgb, rfl, hs2⟩
  refine ⟨_, (.there .here), ?_⟩
  refine sl_st (.cons_cons _ (List.nil_sublist _)) ?_
  refine sl_cons (ss_set c (i := 2) rfl rfl ?_)
  refine ee_ixT ?_
  refine ee_pcall c (i := 3) f__law_group (by decide) rfl ?_
  refine ea_cons ?_
  refine ee_var c (i := 1) rfl rfl rfl ?_
  refine ea_nil ?_
  refine ⟨_, ⟨gs, rfl, hgl, hgb, rfl⟩, rfl, ?_⟩
  rintro _ ⟨b, rfl, nf, hbl⟩
  refine ee_int ?_
  refine ⟨_, _, _, rfl, rfl, rfl, ?_⟩
  refine ⟨_, (.there (.there .here)), ?_⟩
  refine sl_cons (ss_set c (i := 3) rfl rfl ?_)
  refine ee_and ?_
  refine ee_eqIV ?_
  refine ee_lenT c (i := 4) rfl mb.len ?_
  refine ee_var c (i := 2) rfl rfl rfl ?_
  refine ⟨_, rfl, ?_⟩
  refine ee_int ?_
  refine ⟨_, _, rfl, rfl, ?_⟩
  intro b2 hb2
  refine ⟨_, rfl, ?_⟩
  cases b2
  · refine isF ?_
    refine ⟨_, (.there (.there (.there .here))), ?_⟩
    refine sl_cons (ss_ret ?_)
    refine ee_ifx ?_
    refine et_val ?_
    refine ee_var c (i := 3) rfl rfl rfl ?_
    refine ⟨_, rfl, ?_⟩
    refine isF ?_
    refine ee_var c (i := 1) rfl rfl rfl ?_
    exact ⟨_, .refl _, fun e he => by simp at he; rw [he], gs, a2, b2, z2, rfl, by omega, fun g hg => (hgb g hg).mono (by omega), rfl, hs2⟩
  · refine isT ?_
    refine ee_one ?_
    refine ee_gtV ?_
    refine ee_mulO ?_
    refine ee_ixT ?_
    refine ee_ixT ?_
    refine ee_var c (i := 2) rfl rfl rfl ?_
    refine ee_int ?_
    obtain ⟨u, v, rfl⟩ : ∃ u v, b = [u, v] := by
      have h2 : (b.map dV).length = 2 := by have := hb2.mp rfl; omega
      rw [List.length_map] at h2
      match b, h2 with
      | [u, v], _ => exact ⟨u, v, rfl⟩
    refine ⟨_, _, dV u, rfl, rfl, rfl, ?_⟩
    refine ee_int ?_
    refine ⟨_, _, _, rfl, rfl, rfl, ?_⟩
    refine ee_ixT ?_
    refine ee_ixT ?_
    refine ee_var c (i := 2) rfl rfl rfl ?_
    refine ee_int ?_
    refine ⟨_, _, dV v, rfl, rfl, rfl, ?_⟩
    refine ee_int ?_
    refine ⟨_, _, _, rfl, rfl, rfl, ?_⟩
    refine ⟨_, _, rfl, rfl, (hbl u (by simp)).1.mulOk (hbl v (by simp)).2 (by decide), ?_⟩
    refine ee_int ?_
    refine ⟨_, _, rfl, rfl, ?_⟩
    intro b3 hb3
    refine ⟨_, (.there (.there (.there .here))), ?_⟩
    refine sl_cons (ss_ret ?_)
    refine ee_ifx ?_
    refine et_val ?_
    refine ee_var c (i := 3) rfl rfl rfl ?_
    refine ⟨_, rfl, ?_⟩
    cases b3
    · refine isF ?_
      refine ee_var c (i := 1) rfl rfl rfl ?_
      exact ⟨_, .refl _, fun e he => by simp at he; rw [he], gs, a2, b2, z2, rfl, by omega, fun g hg => (hgb g hg).mono (by omega), rfl, hs2⟩
    · refine isT ?_
      refine ee_call c (i := 5) f__law_tiling (by decide) rfl ?_
      refine ea_cons ?_
      refine ee_var c (i := 0) rfl rfl rfl ?_
      refine ea_cons ?_
      refine ee_int ?_
      refine ea_nil ?_
      refine ⟨_, _, _, .wr (by repeat (first | exact OutA.here | apply OutA.there)) (.nil _), ⟨q, _, _, _, 3, rfl, rfl, by omega, hs2, rfl⟩, rfl, ?_⟩
      rintro _ _ ⟨gs, a2, b2, z2, rfl, hgl, hgb, rfl, hs2⟩
      exact ⟨_, .refl _, fun e he => by simp at he; rw [he], gs, a2, b2, z2, rfl, by omega, fun g hg => (hgb g hg).mono (by omega), rfl, hs2⟩
end G
end
section
set_option Elab.async false
set_option linter.all false
set_option maxRecDepth 100000
set_option maxHeartbeats 4000000
namespace G
open PySem L2
variable {P : Program} {w : World} {K : PySem.W.Frag} {mg : Str → Option Value} {base : Heap}
def W_law : Spec := Pu fun ds p => ∃ ns : List Int, ds = [.scr ns] ∧ p = fun d => d = .bl true
theorem ok_law {f : Addr} {fd : FuncData} (Fu : FunT K "law" 98 [] f fd) (mb : MB mg) (mc : MC K mg) (f__law_source : Fn P w K mg base "_law_source" 1 1 [] W__law_source) (f__law_cell : Fn P w K mg base "_law_cell" 1 2 [] W__law_cell) (f__law_group_of_any_sort : Fn P w K mg base "_law_group_of_any_sort" 6 1 [] W_grp) (f_connect : Fn P w K mg base "connect" 13 3 [] W_connect) (f__law_program_right : Fn P w K mg base "_law_program_right" 9 5 [] W__law_program_right) (f__law_squares_right : Fn P w K mg base "_law_squares_right" 9 5 [] W__law_squares_right) (f__law_square : Fn P w K mg base "_law_square" 2 2 [] W__law_square) (f_image : Fn P w K mg base "image" 5 2 [] W_image) (f_representative : Fn P w K mg base "representative" 6 2 [] W_representative) (f__law_word : Fn P w K mg base "_law_word" 4 3 [] W__law_word) (f_is_connection : Fn P w K mg base "is_connection" 8 4 [] W_is_connection) {fP fS : Addr} (gl__law_program_right : GlD K mg "_law_program_right" (.ref fP)) (gl__law_squares_right : GlD K mg "_law_squares_right" (.ref fS)) (vP : FV P w K mg base fP 9 5 W__law_program_right) (vS : FV P w K mg base fS 9 5 W__law_squares_right) : FnOk P w K mg base CX0 14 f fd ["_law_script"] (spW K 1 W_law) := by
  refine fnok_mk (N := ["_law_script", "_law_index", "_law_source_here", "_law_lap", "_law_generators_here", "_law_start", "_law_goal", "_law_actual", "_law_is_one", "_law_is_right"]) (Gs := ["range", "max", "min", "len", "_law_source", "_law_cell", "_law_group_of_any_sort", "_law_square", "image", "_law_word", "connect", "representative", "is_connection", "_law_program_right", "_law_squares_right"]) (Vi := [0, 1, 2, 3, 4, 5, 6, 7, 8, 9]) Fu ⟨rfl, rfl, rfl, by decide +kernel, rfl, by decide +kernel, by decide +kernel⟩ (by decide +kernel) rfl ?_
  rintro X F want ds R c hsc ⟨rfl, p, ⟨ns, rfl, rfl⟩, rfl⟩ hl hF
  show SL X F _ [some _, none, none, none, none, none, none, none, none, none] _ _ _
  refine sl_cons (ss_for c (vs := [1]) ?_)
  refine ei_rng c (j := 0) rfl mb.range ?_
  refine ee_max c (i := 1) rfl mb.max ?_
  refine ea_cons ?_
  refine ee_int ?_
  refine ea_cons ?_
  refine ee_min c (i := 2) rfl mb.min ?_
  refine ea_cons ?_
  refine ee_lenS c (i := 3) rfl mb.len ?_
  refine ee_var c (i := 0) rfl rfl rfl ?_
  refine ⟨_, rfl, ?_⟩
  refine ea_cons ?_
  refine ee_int ?_
  refine ea_nil ?_
  refine ⟨_, _, rfl, ?_⟩
  refine ea_nil ?_
  refine ⟨_, _, rfl, ?_⟩
  refine ⟨_, rfl, by omega, by omega, ?_⟩
  refine ⟨fun i en st => ∃ (o1 o2 o3 o4 o5 o6 o7 o8 o9 : Option D), en = [some (.scr ns), o1, o2, o3, o4, o5, o6, o7, o8, o9] ∧ st = [], ⟨none, none, none, none, none, none, none, none, none, rfl, rfl⟩, fun _ _ _ _ _ => trivial, ?_, ?_⟩
  · rintro i d en2 st2 hd ⟨o1, o2, o3, o4, o5, o6, o7, o8, o9, rfl, rfl⟩
    obtain ⟨hi, rfl⟩ := rangeGet hd
    refine eg_name c (i := 1) rfl rfl (by decide) (.there .here) ?_
    refine sl_cons (ss_set c (i := 2) rfl rfl ?_)
    refine ee_call c (i := 4) f__law_source (by decide) rfl ?_
    refine ea_cons ?_
    refine ee_pcall c (i := 5) f__law_cell (by decide) rfl ?_
    refine ea_cons ?_
    refine ee_var c (i := 0) rfl rfl rfl ?_
    refine ea_cons ?_
    refine ee_var c (i := 1) rfl rfl rfl ?_
    refine ea_nil ?_
    refine ⟨_, ⟨ns, i, rfl, rfl⟩, rfl, ?_⟩
    rintro _ ⟨zc, rfl⟩
    refine ea_nil ?_
    refine ⟨[], _, _, .nil _, ⟨_, rfl, rfl, rfl⟩, rfl, ?_⟩
    rintro _ _ ⟨q, a, b, z, rfl, rfl, hs⟩
    refine ⟨_, (.there (.there .here)), ?_⟩
    refine sl_cons (ss_for c (vs := [3]) ?_)
    refine ei_rng c (j := 0) rfl mb.range ?_
    refine ee_int ?_
    refine ⟨_, rfl, by decide, by decide, ?_⟩
    refine ⟨fun j en st => ∃ (a b z : Int) (o3 o4 o5 o6 o7 o8 o9 : Option D), en = [some (.scr ns), some (.int (i : Nat)), some (.ref q), o3, o4, o5, o6, o7, o8, o9] ∧ st = [⟨q, true, sO a b z⟩] ∧ SRC a b, ⟨_, _, _, _, _, _, _, _, _, _, rfl, rfl, hs⟩, fun _ _ _ _ _ => trivial, ?_, ?_⟩
    · rintro j d en2 st2 hd ⟨a, b, z, o3, o4, o5, o6, o7, o8, o9, rfl, rfl, hs⟩
      obtain ⟨hj, rfl⟩ := rangeGet hd
      refine eg_name c (i := 3) rfl rfl (by decide) (.there (.there (.there .here))) ?_
      refine sl_cons (ss_set c (i := 4) rfl rfl ?_)
      refine ee_call c (i := 6) f__law_group_of_any_sort (by decide) rfl ?_
      refine ea_cons ?_
      refine ee_var c (i := 2) rfl rfl rfl ?_
      refine ea_nil ?_
      refine ⟨_, _, _, .wr (by repeat (first | exact OutA.here | apply OutA.there)) (.nil _), ⟨q, _, _, _, rfl, rfl, hs, rfl⟩, rfl, ?_⟩
      rintro _ _ ⟨gs, a0, b0, z0, rfl, hgl, hgb, rfl, hs0⟩
      have hg : GB 4 gs := ⟨hgl, fun g hg => ab_bv (hgb g hg) (by decide)⟩
      refine ⟨_, (.there (.there (.there (.there .here)))), ?_⟩
      refine sl_cons (ss_par2 c (i := 5) (j := 6) rfl rfl rfl rfl (by rw [hsc]; rfl) (by rw [hsc]; rfl) ?_)
      refine ea_cons ?_
      refine ee_call c (i := 7) f__law_square (by decide) rfl ?_
      refine ea_cons ?_
      refine ee_var c (i := 2) rfl rfl rfl ?_
      refine ea_cons ?_
      refine ee_int ?_
      refine ea_nil ?_
      refine ⟨_, _, _, .wr (by repeat (first | exact OutA.here | apply OutA.there)) (.nil _), ⟨q, _, _, _, 6, rfl, rfl, by decide, hs0, rfl⟩, rfl, ?_⟩
      rintro _ _ ⟨v1, a1, b1, z1, rfl, hv1, rfl, hs1⟩
      refine ea_cons ?_
      refine ee_call c (i := 7) f__law_square (by decide) rfl ?_
      refine ea_cons ?_
      refine ee_var c (i := 2) rfl rfl rfl ?_
      refine ea_cons ?_
      refine ee_int ?_
      refine ea_nil ?_
      refine ⟨_, _, _, .wr (by repeat (first | exact OutA.here | apply OutA.there)) (.nil _), ⟨q, _, _, _, 6, rfl, rfl, by decide, hs1, rfl⟩, rfl, ?_⟩
      rintro _ _ ⟨v2, a2, b2, z2, rfl, hv2, rfl, hs2⟩
      have hb1 : BV 4000 v1 := (ab_bv (n := 3) hv1 (by decide)).mono (by omega)
      have hb2 : BV 4000 v2 := (ab_bv (n := 3) hv2 (by decide)).mono (by omega)
      refine ea_nil ?_
      refine ⟨_, _, _, _, rfl, (.there (.there (.there (.there (.there .here))))), (.there (.there (.there (.there (.there (.there .here)))))), ?_⟩
      refine sl_cons (ss_mono (N' := fun en st => ∃ (g : V2) (a b z : Int), en = [some (.scr ns), some (.int (i : Nat)), some (.ref q), some (.int (j : Nat)), some (dG gs), some (dV v1), some (dV g), o7, o8, o9] ∧ st = [⟨q, true, sO a b z⟩] ∧ BV 4000 g ∧ SRC a b) (ss_if ?_) ?_)
      · refine et_eqI ?_
        refine ee_mod ?_
        refine ee_var c (i := 3) rfl rfl rfl ?_
        refine ee_int ?_
        refine ⟨_, _, rfl, rfl, by decide, ?_⟩
        refine ee_int ?_
        refine ⟨_, _, rfl, rfl, ?_⟩
        refine ⟨fun h1 => ?_, fun h1 => ?_⟩
        · refine isT ?_
          refine sl_cons (ss_set c (i := 6) rfl rfl ?_)
          refine ee_pcall c (i := 8) f_image (by decide) rfl ?_
          refine ea_cons ?_
          refine ee_call c (i := 9) f__law_word (by decide) rfl ?_
          refine ea_cons ?_
          refine ee_var c (i := 2) rfl rfl rfl ?_
          refine ea_cons ?_
          refine ee_var c (i := 4) rfl rfl rfl ?_
          refine ea_cons ?_
          refine ee_int ?_
          refine ea_nil ?_
          refine ⟨_, _, _, .wr (by repeat (first | exact OutA.here | apply OutA.there)) (.nil _), ⟨q, _, _, _, gs, 10, 4, rfl, rfl, by omega, hgl, hgb, hs2, rfl⟩, rfl, ?_⟩
          rintro _ _ ⟨w3, a3, b3, z3, rfl, hw3, hwb3, rfl, hs3⟩
          refine ea_cons ?_
          refine ee_var c (i := 5) rfl rfl rfl ?_
          refine ea_nil ?_
          refine ⟨_, ⟨w3, v1, rfl, rfl⟩, rfl, ?_⟩
          rintro _ rfl
          refine ⟨_, (.there (.there (.there (.there (.there (.there .here)))))), ?_⟩
          refine sl_nil ?_
          exact ⟨img w3 v1, _, _, _, rfl, rfl, (BV.img (ab_bv (n := 10) hwb3 (by decide)) (ab_bv (n := 10) hv1 (by decide)) (k := 11) (by omega) (by omega)).mono (by omega), hs3⟩
        · refine isF ?_
          refine sl_nil ?_
          exact ⟨v2, _, _, _, rfl, rfl, hb2, hs2⟩
      · rintro _ _ ⟨g, a, b, z, rfl, rfl, hbg, hs⟩
        refine sl_cons (ss_set c (i := 7) rfl rfl ?_)
        refine ee_pcall c (i := 10) f_connect (by decide) rfl ?_
        refine ea_cons ?_
        refine ee_var c (i := 4) rfl rfl rfl ?_
        refine ea_cons ?_
        refine ee_var c (i := 5) rfl rfl rfl ?_
        refine ea_cons ?_
        refine ee_var c (i := 6) rfl rfl rfl ?_
        refine ea_nil ?_
        refine ⟨_, ⟨4, gs, v1, g, rfl, by omega, hg, hb1, hbg, rfl⟩, rfl, ?_⟩
        rintro d (⟨sq, rfl, hsq, hsl, hO, hno⟩ | ⟨pr, rfl, hP, hne, him, hin, hbv, hpl⟩)
        · skip
          refine ⟨_, (.there (.there (.there (.there (.there (.there (.there .here))))))), ?_⟩
          refine sl_cons (ss_set c (i := 8) rfl rfl ?_)
          refine ee_eqD c ?_
          refine ee_pcall c (i := 11) f_representative (by decide) rfl ?_
          refine ea_cons ?_
          refine ee_var c (i := 4) rfl rfl rfl ?_
          refine ea_cons ?_
          refine ee_var c (i := 5) rfl rfl rfl ?_
          refine ea_nil ?_
          refine ⟨_, ⟨4, gs, v1, rfl, by omega, hg, hb1.mono (by omega), rfl⟩, rfl, ?_⟩
          rintro _ ⟨e1, rfl, hR1⟩
          refine ee_pcall c (i := 11) f_representative (by decide) rfl ?_
          refine ea_cons ?_
          refine ee_var c (i := 4) rfl rfl rfl ?_
          refine ea_cons ?_
          refine ee_var c (i := 6) rfl rfl rfl ?_
          refine ea_nil ?_
          refine ⟨_, ⟨4, gs, g, rfl, by omega, hg, hbg.mono (by omega), rfl⟩, rfl, ?_⟩
          rintro _ ⟨e2, rfl, hR2⟩
          refine ⟨by first | exact pl_dV _ | exact pl_dS _ | exact pl_dVs _ | exact pl_dG _ | rfl, by first | exact pl_dV _ | exact pl_dS _ | exact pl_dVs _ | exact pl_dG _ | rfl, ?_⟩
          intro b2 hb2
          obtain rfl : b2 = false := Bool.eq_false_iff.mpr fun z => hno ((hR1.iff hR2).mp (dV_inj (hb2.mp z)))
          refine ⟨_, (.there (.there (.there (.there (.there (.there (.there (.there .here)))))))), ?_⟩
          refine sl_cons (ss_if ?_)
          refine ew_pt ?_
          refine ew_or ?_
          refine et_neB ?_
          refine ee_eqS ?_
          refine ee_ixT ?_
          refine ee_var c (i := 7) rfl rfl rfl ?_
          refine ee_int ?_
          refine ⟨_, _, _, rfl, rfl, rfl, ?_⟩
          refine ee_str ?_
          refine ⟨_, _, rfl, rfl, ?_⟩
          intro b3 hb3
          refine ee_var c (i := 8) rfl rfl rfl ?_
          refine ⟨_, _, rfl, rfl, ?_⟩
          refine ⟨fun h4 => ?_, fun h4 => ?_⟩
          · exact absurd (Bool.eq_false_iff.mpr fun z => absurd (hb3.mp z) (by decide)) h4
          · refine isF ?_
            refine ew_or1 ?_
            refine et_notB ?_
            refine ee_pcall c (i := 12) f_is_connection (by decide) rfl ?_
            refine ea_cons ?_
            refine ee_var c (i := 4) rfl rfl rfl ?_
            refine ea_cons ?_
            refine ee_var c (i := 5) rfl rfl rfl ?_
            refine ea_cons ?_
            refine ee_var c (i := 6) rfl rfl rfl ?_
            refine ea_cons ?_
            refine ee_var c (i := 7) rfl rfl rfl ?_
            refine ea_nil ?_
            refine ⟨_, ⟨4, gs, v1, g, by omega, hg, .inr ⟨v1, sq, rfl, hb1.mono (by omega), hbg.mono (by omega), hsq, hsl, hO, rfl⟩⟩, rfl, ?_⟩
            rintro _ ⟨b5, rfl, hb5⟩
            refine ee_bl ?_
            refine ⟨_, _, rfl, rfl, ?_⟩
            refine ⟨fun h6 => ?_, fun h6 => ?_⟩
            · exact absurd (hb5.mpr ⟨.refl _, hno⟩) h6
            · refine isF ?_
              refine sl_nil ?_
              refine sl_cons (ss_set c (i := 9) rfl rfl ?_)
              refine ee_ifx ?_
              refine et_val ?_
              refine ee_var c (i := 8) rfl rfl rfl ?_
              refine ⟨_, rfl, ?_⟩
              refine isF ?_
              refine ee_glob c (j := 14) gl__law_squares_right rfl ?_
              refine ⟨_, (.there (.there (.there (.there (.there (.there (.there (.there (.there .here))))))))), ?_⟩
              refine sl_cons (ss_if ?_)
              refine et_not ?_
              refine et_val ?_
              refine ee_callE c (j := 9) (n := 5) (W := W__law_squares_right) (by decide) ?_
              refine ee_var c (i := 9) rfl rfl rfl ?_
              refine ⟨_, rfl, vS, ?_⟩
              refine ea_cons ?_
              refine ee_var c (i := 2) rfl rfl rfl ?_
              refine ea_cons ?_
              refine ee_var c (i := 4) rfl rfl rfl ?_
              refine ea_cons ?_
              refine ee_var c (i := 5) rfl rfl rfl ?_
              refine ea_cons ?_
              refine ee_var c (i := 6) rfl rfl rfl ?_
              refine ea_cons ?_
              refine ee_var c (i := 7) rfl rfl rfl ?_
              refine ea_nil ?_
              refine ⟨_, _, _, .wr (by repeat (first | exact OutA.here | apply OutA.there)) (.nil _), ⟨q, _, _, _, 4, gs, v1, g, sq, rfl, rfl, by omega, hg, hgb, hb1, hbg, hsq, hsl, hO, hno, hs, rfl⟩, rfl, ?_⟩
              rintro _ _ ⟨rfl, a9, b9, z9, rfl, hs9⟩
              refine ⟨_, rfl, ?_⟩
              refine isF ?_
              refine sl_nil ?_
              refine sl_nil ?_
              exact ⟨_, _, _, _, _, _, _, _, _, _, rfl, rfl, hs9⟩
        · skip
          refine ⟨_, (.there (.there (.there (.there (.there (.there (.there .here))))))), ?_⟩
          refine sl_cons (ss_set c (i := 8) rfl rfl ?_)
          refine ee_eqD c ?_
          refine ee_pcall c (i := 11) f_representative (by decide) rfl ?_
          refine ea_cons ?_
          refine ee_var c (i := 4) rfl rfl rfl ?_
          refine ea_cons ?_
          refine ee_var c (i := 5) rfl rfl rfl ?_
          refine ea_nil ?_
          refine ⟨_, ⟨4, gs, v1, rfl, by omega, hg, hb1.mono (by omega), rfl⟩, rfl, ?_⟩
          rintro _ ⟨e1, rfl, hR1⟩
          refine ee_pcall c (i := 11) f_representative (by decide) rfl ?_
          refine ea_cons ?_
          refine ee_var c (i := 4) rfl rfl rfl ?_
          refine ea_cons ?_
          refine ee_var c (i := 6) rfl rfl rfl ?_
          refine ea_nil ?_
          refine ⟨_, ⟨4, gs, g, rfl, by omega, hg, hbg.mono (by omega), rfl⟩, rfl, ?_⟩
          rintro _ ⟨e2, rfl, hR2⟩
          refine ⟨by first | exact pl_dV _ | exact pl_dS _ | exact pl_dVs _ | exact pl_dG _ | rfl, by first | exact pl_dV _ | exact pl_dS _ | exact pl_dVs _ | exact pl_dG _ | rfl, ?_⟩
          intro b7 hb7
          obtain rfl : b7 = true := hb7.mpr (congrArg dV ((hR1.iff hR2).mpr ⟨_, hin, him⟩))
          refine ⟨_, (.there (.there (.there (.there (.there (.there (.there (.there .here)))))))), ?_⟩
          refine sl_cons (ss_if ?_)
          refine ew_pt ?_
          refine ew_or ?_
          refine et_neB ?_
          refine ee_eqS ?_
          refine ee_ixT ?_
          refine ee_var c (i := 7) rfl rfl rfl ?_
          refine ee_int ?_
          refine ⟨_, _, _, rfl, rfl, rfl, ?_⟩
          refine ee_str ?_
          refine ⟨_, _, rfl, rfl, ?_⟩
          intro b8 hb8
          refine ee_var c (i := 8) rfl rfl rfl ?_
          refine ⟨_, _, rfl, rfl, ?_⟩
          refine ⟨fun h9 => ?_, fun h9 => ?_⟩
          · exact absurd (hb8.mpr rfl) h9
          · refine isF ?_
            refine ew_or1 ?_
            refine et_notB ?_
            refine ee_pcall c (i := 12) f_is_connection (by decide) rfl ?_
            refine ea_cons ?_
            refine ee_var c (i := 4) rfl rfl rfl ?_
            refine ea_cons ?_
            refine ee_var c (i := 5) rfl rfl rfl ?_
            refine ea_cons ?_
            refine ee_var c (i := 6) rfl rfl rfl ?_
            refine ea_cons ?_
            refine ee_var c (i := 7) rfl rfl rfl ?_
            refine ea_nil ?_
            refine ⟨_, ⟨4, gs, v1, g, by omega, hg, .inl ⟨pr, rfl, hP, hne, rfl⟩⟩, rfl, ?_⟩
            rintro _ ⟨b10, rfl, hb10⟩
            refine ee_bl ?_
            refine ⟨_, _, rfl, rfl, ?_⟩
            refine ⟨fun h11 => ?_, fun h11 => ?_⟩
            · exact absurd (hb10.mpr him) h11
            · refine isF ?_
              refine sl_nil ?_
              refine sl_cons (ss_set c (i := 9) rfl rfl ?_)
              refine ee_ifx ?_
              refine et_val ?_
              refine ee_var c (i := 8) rfl rfl rfl ?_
              refine ⟨_, rfl, ?_⟩
              refine isT ?_
              refine ee_glob c (j := 13) gl__law_program_right rfl ?_
              refine ⟨_, (.there (.there (.there (.there (.there (.there (.there (.there (.there .here))))))))), ?_⟩
              refine sl_cons (ss_if ?_)
              refine et_not ?_
              refine et_val ?_
              refine ee_callE c (j := 9) (n := 5) (W := W__law_program_right) (by decide) ?_
              refine ee_var c (i := 9) rfl rfl rfl ?_
              refine ⟨_, rfl, vP, ?_⟩
              refine ea_cons ?_
              refine ee_var c (i := 2) rfl rfl rfl ?_
              refine ea_cons ?_
              refine ee_var c (i := 4) rfl rfl rfl ?_
              refine ea_cons ?_
              refine ee_var c (i := 5) rfl rfl rfl ?_
              refine ea_cons ?_
              refine ee_var c (i := 6) rfl rfl rfl ?_
              refine ea_cons ?_
              refine ee_var c (i := 7) rfl rfl rfl ?_
              refine ea_nil ?_
              refine ⟨[], _, _, .nil _, ⟨rfl, _, ⟨q, 4, gs, v1, g, pr, rfl, by omega, hg, hb1, hbg, hP, hne, hpl, him, hin, hbv, rfl⟩, rfl⟩, rfl, ?_⟩
              rintro _ _ ⟨rfl, rfl⟩
              refine ⟨_, rfl, ?_⟩
              refine isF ?_
              refine sl_nil ?_
              refine sl_nil ?_
              exact ⟨_, _, _, _, _, _, _, _, _, _, rfl, rfl, hs⟩
    · rintro en2 st2 ⟨a, b, z, o3, o4, o5, o6, o7, o8, o9, rfl, rfl, hs⟩
      refine sl_st (List.nil_sublist _) ?_
      refine sl_nil ?_
      exact ⟨_, _, _, _, _, _, _, _, _, rfl, rfl⟩
  · rintro en2 st2 ⟨o1, o2, o3, o4, o5, o6, o7, o8, o9, rfl, rfl⟩
    refine sl_cons (ss_ret ?_)
    refine ee_bl ?_
    exact .pure ⟨rfl, rfl⟩
end G
end
section
set_option Elab.async false
set_option linter.all false
set_option maxRecDepth 100000
set_option maxHeartbeats 4000000
/-! H1: facts of the head: static data; promises by names. -/
namespace G
open PySem L2
theorem stBs_ok {K : PySem.W.Frag} {n : Nat} (ih : ∀ u d, stB K n u d = true → ∃ v, RelV v u ∧ ∀ H, At K H v d) : ∀ {us : List Value} {ds : List D}, us.length = ds.length → ((us.zip ds).all fun p => stB K n p.1 p.2) = true → ∃ xs, Vals xs us ∧ ∀ H, Ats K H xs ds
  | [], [], _, _ => ⟨[], .nil, fun H => ats_nil.mpr rfl⟩
  | [], _ :: _, h, _ => by simp at h
  | _ :: _, [], h, _ => by simp at h
  | u :: us, d :: ds, h, e => by
    simp only [List.zip_cons_cons, List.all_cons, Bool.and_eq_true] at e
    obtain ⟨v, r, a⟩ := ih u d e.1
    obtain ⟨xs, rs, as⟩ := stBs_ok ih (us := us) (ds := ds) (by simpa using h) e.2
    exact ⟨v :: xs, .cons r rs, fun H => ats_cons.mpr ⟨_, _, rfl, a H, as H⟩⟩
theorem stB_ok {K : PySem.W.Frag} : ∀ (n : Nat) (u : Value) (d : D), stB K n u d = true → ∃ v, RelV v u ∧ ∀ H, At K H v d := by
  intro n
  induction n with
  | zero =>
    intro u d h
    cases d with
    | int j => cases u <;> simp [stB] at h; subst h; exact ⟨.int _, ⟨_, rfl⟩, fun H => at_int.mpr rfl⟩
    | str j => cases u <;> simp [stB] at h; subst h; exact ⟨.str _, ⟨_, rfl⟩, fun H => at_str.mpr rfl⟩
    | _ => cases u <;> simp [stB] at h
  | succ n ih =>
    intro u d h
    cases d with
    | int j => cases u <;> simp [stB] at h; subst h; exact ⟨.int _, ⟨_, rfl⟩, fun H => at_int.mpr rfl⟩
    | str j => cases u <;> simp [stB] at h; subst h; exact ⟨.str _, ⟨_, rfl⟩, fun H => at_str.mpr rfl⟩
    | tup ds =>
      cases u with
      | ref a =>
        unfold stB at h
        split at h
        · rename_i c its n0 sl q
          simp only [Bool.and_eq_true, decide_eq_true_eq] at h
          obtain ⟨h1, h2, h3, h4⟩ := h
          obtain ⟨xs, rs, as⟩ := stBs_ok ih h3 h4
          exact ⟨.ref a, rfl, fun H => at_tup.mpr ⟨a, xs, rfl, .inr ⟨_, its, n0, q, congrArg Value.type h1, rfl, h2, rs⟩, as H⟩⟩
        · cases h
      | _ => simp [stB] at h
    | _ => cases u <;> simp [stB] at h
section
variable {K : PySem.W.Frag} {h : Heap} {mg : Str → Option Value}
theorem stG_ok (X : K.In h) (G : h.Ns mainGlobals mg) {x : Str} {d : D} (c : stG K (x, d) = true) : GlD K mg x d := by
  unfold stG at c
  split at c
  · rename_i u e
    obtain ⟨v, r, a⟩ := stB_ok 3 u d c
    exact ⟨v, u, PySem.W.mg_of X G e, r, a⟩
  · cases c
theorem stG_tup (X : K.In h) (G : h.Ns mainGlobals mg) {x : Str} {ds : List D} (c : stG K (x, .tup ds) = true) : GlT K mg x (.tup ds) := by
  unfold stG at c
  split at c
  · rename_i u e
    have c0 := c
    cases u with
    | ref a =>
      unfold stB at c
      simp only at c
      split at c
      · rename_i cc its n0 sl q
        simp only [Bool.and_eq_true, decide_eq_true_eq] at c
        obtain ⟨v, r, hA⟩ := stB_ok 3 (.ref a) (.tup ds) c0
        have : v = .ref a := by
          obtain ⟨a', xs, e1, _⟩ := at_tup.mp (hA fun _ => none)
          subst e1
          cases r
          rfl
        subst this
        exact ⟨a, PySem.W.mg_of X G e, hA, _, q, congrArg Value.type c.1, rfl⟩
      · cases c
    | _ => simp [stB] at c
  · cases c
end
/-- a def's promise holds at any greater level -/
theorem fnok_up {P : Program} {w : World} {K : PySem.W.Frag} {mg : Str → Option Value} {base : Heap} {CX : CXT} {k j : Nat} {f : Addr} {fd : FuncData} {ps : List Str} {sp : L2.Sp} (F : FnOk P w K mg base CX k f fd ps sp) (h : k ≤ j) : FnOk P w K mg base CX j f fd ps sp :=
  ⟨F.len, fun A stk s H as us vs Q E hr => F.run A stk s H as us vs Q E (hr.mono h)⟩
end G
end
section
set_option Elab.async false
set_option linter.all false
set_option maxRecDepth 100000
set_option maxHeartbeats 4000000
namespace G
open PySem L2
theorem gl_of {K : PySem.W.Frag} {mg : Str → Option Value} {x : Str} {f : Addr} (h : mg x = some (.ref f)) : GlD K mg x (.ref f) := ⟨.ref f, .ref f, h, rfl, fun H => at_ref.mpr rfl⟩
theorem fv_of {P : Program} {w : World} {K : PySem.W.Frag} {mg : Str → Option Value} {base : Heap} {x : Str} {f : Addr} {j k n : Nat} {W : Spec} (h : Fn P w K mg base x j n [] W) (hjk : j ≤ k) (hm : mg x = some (.ref f)) : FV P w K mg base f k n W := by
  obtain ⟨f', fd, ps, dvs, ds, h1, h2, h3, h4, h5, h6, h7⟩ := h.ex
  have e := h2.symm.trans hm
  cases e
  have hd : dvs = [] := by
    have := (h6 fun _ => none).length
    simpa using this
  subst hd
  cases h5
  exact ⟨fd, ps, h1, h3, h4, h7.mono hjk⟩
theorem facts {P : Program} {w : World} {K : PySem.W.Frag} {h : Heap} {mg : Str → Option Value} {f : Addr} (X : K.In h) (G : h.Ns mainGlobals mg) (hfa : mg ("law" : Str) = some (.ref f)) (c : He.SaysD fa fn K) (cs : sd.all (stG K) = true) :
    ∃ fd : FuncData, (∀ (s : Shared) (v : Value), BindsTo s fd ⟨[v], []⟩ [("_law_script", v)]) ∧ ∀ base : Heap, FnOk P w K mg base CX0 14 f fd ["_law_script"] (spW K 1 W_law) := by
  have sg : ∀ q ∈ sd, stG K q = true := List.all_eq_true.mp cs
  have mc : MC K mg := ⟨stG_ok X G (sg _ (.head _)), stG_ok X G (sg _ (.tail _ (.head _))), stG_ok X G (sg _ (.tail _ (.tail _ (.head _)))), stG_ok X G (sg _ (.tail _ (.tail _ (.tail _ (.head _))))), stG_tup X G (sg _ (.tail _ (.tail _ (.tail _ (.tail _ (.head _)))))), stG_ok X G (sg _ (.tail _ (.tail _ (.tail _ (.tail _ (.tail _ (.head _))))))), stG_ok X G (sg _ (.tail _ (.tail _ (.tail _ (.tail _ (.tail _ (.tail _ (.head _)))))))), stG_ok X G (sg _ (.tail _ (.tail _ (.tail _ (.tail _ (.tail _ (.tail _ (.tail _ (.head _)))))))))⟩
  have mb : MB mg := ⟨He.free_ok X G (c.fact 78 (f := .free "abs") rfl), He.free_ok X G (c.fact 79 (f := .free "len") rfl), He.free_ok X G (c.fact 80 (f := .free "all") rfl), He.free_ok X G (c.fact 81 (f := .free "tuple") rfl), He.free_ok X G (c.fact 82 (f := .free "list") rfl), He.free_ok X G (c.fact 83 (f := .free "max") rfl), He.free_ok X G (c.fact 84 (f := .free "min") rfl), He.free_ok X G (c.fact 85 (f := .free "int") rfl), He.free_ok X G (c.fact 86 (f := .free "str") rfl), He.free_ok X G (c.fact 87 (f := .free "bool") rfl), He.free_ok X G (c.fact 88 (f := .free "isinstance") rfl), He.free_ok X G (c.fact 89 (f := .free "sorted") rfl), He.free_ok X G (c.fact 90 (f := .free "set") rfl), He.free_ok X G (c.fact 91 (f := .free "range") rfl), He.free_ok X G (c.fact 92 (f := .free "enumerate") rfl)⟩
  have hC : mg ("Writer" : Str) = some (.ref (He.ga K "Writer")) := He.glo_ok X G (c.fact 77 (f := .glo "Writer") rfl)
  generalize hCe : He.ga K "Writer" = C at hC
  have wc : WC K C := ⟨hCe ▸ He.cls_ok (c.fact 93 (f := .cls "Writer") rfl), (hCe ▸ He.noat_ok (c.fact 95 (f := .noat "Writer" "many") rfl)), (hCe ▸ He.noat_ok (c.fact 96 (f := .noat "Writer" "known") rfl)), (hCe ▸ He.noat_ok (c.fact 97 (f := .noat "Writer" "lines") rfl)), (hCe ▸ He.noat_ok (c.fact 98 (f := .noat "Writer" "samples") rfl)), (hCe ▸ He.noat_ok (c.fact 99 (f := .noat "Writer" "steps") rfl))⟩
  obtain ⟨fd__law_source, F__law_source⟩ := c.def_ 0 (d := d__law_source) rfl
  obtain ⟨fd__law_cell, F__law_cell⟩ := c.def_ 1 (d := d__law_cell) rfl
  obtain ⟨fd__law_divisor, F__law_divisor⟩ := c.def_ 2 (d := d__law_divisor) rfl
  obtain ⟨fd__law_basis, F__law_basis⟩ := c.def_ 3 (d := d__law_basis) rfl
  obtain ⟨fd__law_linear, F__law_linear⟩ := c.def_ 4 (d := d__law_linear) rfl
  obtain ⟨fd__law_image, F__law_image⟩ := c.def_ 5 (d := d__law_image) rfl
  obtain ⟨fd__law_product, F__law_product⟩ := c.def_ 6 (d := d__law_product) rfl
  obtain ⟨fd__law_reduce, F__law_reduce⟩ := c.def_ 7 (d := d__law_reduce) rfl
  obtain ⟨fd__law_group, F__law_group⟩ := c.def_ 8 (d := d__law_group) rfl
  obtain ⟨fd__law_draw, F__law_draw⟩ := c.def_ 9 (d := d__law_draw) rfl
  obtain ⟨fd__law_square, F__law_square⟩ := c.def_ 10 (d := d__law_square) rfl
  obtain ⟨fd__law_symmetry, F__law_symmetry⟩ := c.def_ 11 (d := d__law_symmetry) rfl
  obtain ⟨fd__law_tiling, F__law_tiling⟩ := c.def_ 12 (d := d__law_tiling) rfl
  obtain ⟨fd__law_choose, F__law_choose⟩ := c.def_ 13 (d := d__law_choose) rfl
  obtain ⟨fd__law_generators, F__law_generators⟩ := c.def_ 14 (d := d__law_generators) rfl
  obtain ⟨fd__law_any_group, F__law_any_group⟩ := c.def_ 15 (d := d__law_any_group) rfl
  obtain ⟨fd__law_inverse, F__law_inverse⟩ := c.def_ 16 (d := d__law_inverse) rfl
  obtain ⟨fd__law_carried, F__law_carried⟩ := c.def_ 17 (d := d__law_carried) rfl
  obtain ⟨fd__law_named_group, F__law_named_group⟩ := c.def_ 18 (d := d__law_named_group) rfl
  obtain ⟨fd__law_group_of_any_sort, F__law_group_of_any_sort⟩ := c.def_ 19 (d := d__law_group_of_any_sort) rfl
  obtain ⟨fd_is_integer, F_is_integer⟩ := c.def_ 20 (d := d_is_integer) rfl
  obtain ⟨fd_is_between, F_is_between⟩ := c.def_ 21 (d := d_is_between) rfl
  obtain ⟨fd_is_symmetry, F_is_symmetry⟩ := c.def_ 22 (d := d_is_symmetry) rfl
  obtain ⟨fd_is_generators, F_is_generators⟩ := c.def_ 23 (d := d_is_generators) rfl
  obtain ⟨fd_need_generators, F_need_generators⟩ := c.def_ 24 (d := d_need_generators) rfl
  obtain ⟨fd_is_square, F_is_square⟩ := c.def_ 25 (d := d_is_square) rfl
  obtain ⟨fd_need_square, F_need_square⟩ := c.def_ 26 (d := d_need_square) rfl
  obtain ⟨fd_need_all, F_need_all⟩ := c.def_ 27 (d := d_need_all) rfl
  obtain ⟨fd_added, F_added⟩ := c.def_ 28 (d := d_added) rfl
  obtain ⟨fd_turned, F_turned⟩ := c.def_ 29 (d := d_turned) rfl
  obtain ⟨fd_offset, F_offset⟩ := c.def_ 30 (d := d_offset) rfl
  obtain ⟨fd_image_of, F_image_of⟩ := c.def_ 31 (d := d_image_of) rfl
  obtain ⟨fd_kind_after, F_kind_after⟩ := c.def_ 32 (d := d_kind_after) rfl
  obtain ⟨fd_product_of, F_product_of⟩ := c.def_ 33 (d := d_product_of) rfl
  obtain ⟨fd_samples_of, F_samples_of⟩ := c.def_ 34 (d := d_samples_of) rfl
  obtain ⟨fd_divisor, F_divisor⟩ := c.def_ 35 (d := d_divisor) rfl
  obtain ⟨fd_basis_of, F_basis_of⟩ := c.def_ 36 (d := d_basis_of) rfl
  obtain ⟨fd_inverse_of, F_inverse_of⟩ := c.def_ 37 (d := d_inverse_of) rfl
  obtain ⟨fd_shifts_of, F_shifts_of⟩ := c.def_ 38 (d := d_shifts_of) rfl
  obtain ⟨fd_leading, F_leading⟩ := c.def_ 39 (d := d_leading) rfl
  obtain ⟨fd_coordinates, F_coordinates⟩ := c.def_ 40 (d := d_coordinates) rfl
  obtain ⟨fd_reduced, F_reduced⟩ := c.def_ 41 (d := d_reduced) rfl
  obtain ⟨fd_reduced_by, F_reduced_by⟩ := c.def_ 42 (d := d_reduced_by) rfl
  obtain ⟨fd_describe_by, F_describe_by⟩ := c.def_ 43 (d := d_describe_by) rfl
  obtain ⟨fd_difference_of, F_difference_of⟩ := c.def_ 44 (d := d_difference_of) rfl
  obtain ⟨fd_is_step, F_is_step⟩ := c.def_ 45 (d := d_is_step) rfl
  obtain ⟨fd_carrying, F_carrying⟩ := c.def_ 46 (d := d_carrying) rfl
  obtain ⟨fd_repeated, F_repeated⟩ := c.def_ 47 (d := d_repeated) rfl
  obtain ⟨fd_power_of, F_power_of⟩ := c.def_ 48 (d := d_power_of) rfl
  obtain ⟨fd_line_value, F_line_value⟩ := c.def_ 49 (d := d_line_value) rfl
  obtain ⟨fd_Writer_write, F_Writer_write⟩ := c.def_ 50 (d := d_Writer_write) rfl
  obtain ⟨fd_Writer_written_samples, F_Writer_written_samples⟩ := c.def_ 51 (d := d_Writer_written_samples) rfl
  obtain ⟨fd_Writer_step_of, F_Writer_step_of⟩ := c.def_ 52 (d := d_Writer_step_of) rfl
  obtain ⟨fd_Writer_divided, F_Writer_divided⟩ := c.def_ 53 (d := d_Writer_divided) rfl
  obtain ⟨fd_Writer_write_steps, F_Writer_write_steps⟩ := c.def_ 54 (d := d_Writer_write_steps) rfl
  obtain ⟨fd_Writer___init__, F_Writer___init__⟩ := c.def_ 55 (d := d_Writer___init__) rfl
  obtain ⟨fd_Writer_write_symmetry, F_Writer_write_symmetry⟩ := c.def_ 56 (d := d_Writer_write_symmetry) rfl
  obtain ⟨fd_program_by, F_program_by⟩ := c.def_ 57 (d := d_program_by) rfl
  obtain ⟨fd_images_of, F_images_of⟩ := c.def_ 58 (d := d_images_of) rfl
  obtain ⟨fd_connect, F_connect⟩ := c.def_ 59 (d := d_connect) rfl
  obtain ⟨fd_value_of, F_value_of⟩ := c.def_ 60 (d := d_value_of) rfl
  obtain ⟨fd_is_factor, F_is_factor⟩ := c.def_ 61 (d := d_is_factor) rfl
  obtain ⟨fd_is_program, F_is_program⟩ := c.def_ 62 (d := d_is_program) rfl
  obtain ⟨fd_run_program, F_run_program⟩ := c.def_ 63 (d := d_run_program) rfl
  obtain ⟨fd_is_apart, F_is_apart⟩ := c.def_ 64 (d := d_is_apart) rfl
  obtain ⟨fd_is_connection, F_is_connection⟩ := c.def_ 65 (d := d_is_connection) rfl
  obtain ⟨fd_need_symmetry, F_need_symmetry⟩ := c.def_ 66 (d := d_need_symmetry) rfl
  obtain ⟨fd_holds, F_holds⟩ := c.def_ 67 (d := d_holds) rfl
  obtain ⟨fd_contains, F_contains⟩ := c.def_ 68 (d := d_contains) rfl
  obtain ⟨fd_image, F_image⟩ := c.def_ 69 (d := d_image) rfl
  obtain ⟨fd__law_program_right, F__law_program_right⟩ := c.def_ 70 (d := d__law_program_right) rfl
  obtain ⟨fd_are_members, F_are_members⟩ := c.def_ 71 (d := d_are_members) rfl
  obtain ⟨fd_is_basis, F_is_basis⟩ := c.def_ 72 (d := d_is_basis) rfl
  obtain ⟨fd_is_description, F_is_description⟩ := c.def_ 73 (d := d_is_description) rfl
  obtain ⟨fd_need_description, F_need_description⟩ := c.def_ 74 (d := d_need_description) rfl
  obtain ⟨fd_kinds_from, F_kinds_from⟩ := c.def_ 75 (d := d_kinds_from) rfl
  obtain ⟨fd_generators_by, F_generators_by⟩ := c.def_ 76 (d := d_generators_by) rfl
  obtain ⟨fd_generators_of, F_generators_of⟩ := c.def_ 77 (d := d_generators_of) rfl
  obtain ⟨fd_describe, F_describe⟩ := c.def_ 78 (d := d_describe) rfl
  obtain ⟨fd__law_word, F__law_word⟩ := c.def_ 79 (d := d__law_word) rfl
  obtain ⟨fd__law_squares_right, F__law_squares_right⟩ := c.def_ 80 (d := d__law_squares_right) rfl
  obtain ⟨fd_representative_by, F_representative_by⟩ := c.def_ 81 (d := d_representative_by) rfl
  obtain ⟨fd_representative, F_representative⟩ := c.def_ 82 (d := d_representative) rfl
  obtain ⟨fd_law, F_law⟩ := c.def_ 83 (d := d_law) rfl
  have b__law_source : Binds K fd__law_source ["_law_cell_here"] [] := F__law_source.bindsN fun _ _ _ _ _ _ us hl => match us, hl with | [_], _ => rfl
  have f__law_source : ∀ base, Fn P w K mg base "_law_source" 1 1 [] W__law_source := fun base => ⟨_, fd__law_source, ["_law_cell_here"], [], [], rfl, He.glo_ok X G (c.fact 0 (f := .glo "_law_source") rfl), F__law_source.kp, b__law_source, .nil, fun H => ats_nil.mpr rfl, ok__law_source F__law_source mb mc⟩
  have b__law_cell : Binds K fd__law_cell ["_law_script", "_law_index"] [] := F__law_cell.bindsN fun _ _ _ _ _ _ us hl => match us, hl with | [_, _], _ => rfl
  have f__law_cell : ∀ base, Fn P w K mg base "_law_cell" 1 2 [] W__law_cell := fun base => ⟨_, fd__law_cell, ["_law_script", "_law_index"], [], [], rfl, He.glo_ok X G (c.fact 1 (f := .glo "_law_cell") rfl), F__law_cell.kp, b__law_cell, .nil, fun H => ats_nil.mpr rfl, ok__law_cell F__law_cell mb mc⟩
  have b__law_divisor : Binds K fd__law_divisor ["_law_one", "_law_other"] [] := F__law_divisor.bindsN fun _ _ _ _ _ _ us hl => match us, hl with | [_, _], _ => rfl
  have f__law_divisor : ∀ base, Fn P w K mg base "_law_divisor" 1 2 [] W__law_divisor := fun base => ⟨_, fd__law_divisor, ["_law_one", "_law_other"], [], [], rfl, He.glo_ok X G (c.fact 2 (f := .glo "_law_divisor") rfl), F__law_divisor.kp, b__law_divisor, .nil, fun H => ats_nil.mpr rfl, ok__law_divisor F__law_divisor mb mc⟩
  have b__law_basis : Binds K fd__law_basis ["_law_vectors"] [] := F__law_basis.bindsN fun _ _ _ _ _ _ us hl => match us, hl with | [_], _ => rfl
  have f__law_basis : ∀ base, Fn P w K mg base "_law_basis" 2 1 [] W__law_basis := fun base => ⟨_, fd__law_basis, ["_law_vectors"], [], [], rfl, He.glo_ok X G (c.fact 3 (f := .glo "_law_basis") rfl), F__law_basis.kp, b__law_basis, .nil, fun H => ats_nil.mpr rfl, ok__law_basis F__law_basis mb mc (f__law_divisor base)⟩
  have b__law_linear : Binds K fd__law_linear ["_law_kind", "_law_vector"] [] := F__law_linear.bindsN fun _ _ _ _ _ _ us hl => match us, hl with | [_, _], _ => rfl
  have f__law_linear : ∀ base, Fn P w K mg base "_law_linear" 1 2 [] W__law_linear := fun base => ⟨_, fd__law_linear, ["_law_kind", "_law_vector"], [], [], rfl, He.glo_ok X G (c.fact 4 (f := .glo "_law_linear") rfl), F__law_linear.kp, b__law_linear, .nil, fun H => ats_nil.mpr rfl, ok__law_linear F__law_linear mb mc⟩
  have b__law_image : Binds K fd__law_image ["_law_symmetry_here", "_law_square_here"] [] := F__law_image.bindsN fun _ _ _ _ _ _ us hl => match us, hl with | [_, _], _ => rfl
  have f__law_image : ∀ base, Fn P w K mg base "_law_image" 2 2 [] W__law_image := fun base => ⟨_, fd__law_image, ["_law_symmetry_here", "_law_square_here"], [], [], rfl, He.glo_ok X G (c.fact 5 (f := .glo "_law_image") rfl), F__law_image.kp, b__law_image, .nil, fun H => ats_nil.mpr rfl, ok__law_image F__law_image mb mc (f__law_linear base)⟩
  have b__law_product : Binds K fd__law_product ["_law_first", "_law_second"] [] := F__law_product.bindsN fun _ _ _ _ _ _ us hl => match us, hl with | [_, _], _ => rfl
  have f__law_product : ∀ base, Fn P w K mg base "_law_product" 3 2 [] W__law_product := fun base => ⟨_, fd__law_product, ["_law_first", "_law_second"], [], [], rfl, He.glo_ok X G (c.fact 6 (f := .glo "_law_product") rfl), F__law_product.kp, b__law_product, .nil, fun H => ats_nil.mpr rfl, ok__law_product F__law_product mb mc (f__law_image base)⟩
  have b__law_reduce : Binds K fd__law_reduce ["_law_basis_here", "_law_vector"] [] := F__law_reduce.bindsN fun _ _ _ _ _ _ us hl => match us, hl with | [_, _], _ => rfl
  have f__law_reduce : ∀ base, Fn P w K mg base "_law_reduce" 1 2 [] W__law_reduce := fun base => ⟨_, fd__law_reduce, ["_law_basis_here", "_law_vector"], [], [], rfl, He.glo_ok X G (c.fact 7 (f := .glo "_law_reduce") rfl), F__law_reduce.kp, b__law_reduce, .nil, fun H => ats_nil.mpr rfl, ok__law_reduce F__law_reduce mb mc⟩
  have b__law_group : Binds K fd__law_group ["_law_generators_here"] [] := F__law_group.bindsN fun _ _ _ _ _ _ us hl => match us, hl with | [_], _ => rfl
  have f__law_group : ∀ base, Fn P w K mg base "_law_group" 4 1 [] W__law_group := fun base => ⟨_, fd__law_group, ["_law_generators_here"], [], [], rfl, He.glo_ok X G (c.fact 8 (f := .glo "_law_group") rfl), F__law_group.kp, b__law_group, .nil, fun H => ats_nil.mpr rfl, ok__law_group F__law_group mb mc (f__law_basis base) (f__law_product base) (f__law_reduce base) (f__law_linear base)⟩
  have b__law_draw : Binds K fd__law_draw ["_law_source_here", "_law_many"] [] := F__law_draw.bindsN fun _ _ _ _ _ _ us hl => match us, hl with | [_, _], _ => rfl
  have f__law_draw : ∀ base, Fn P w K mg base "_law_draw" 1 2 [] W__law_draw := fun base => ⟨_, fd__law_draw, ["_law_source_here", "_law_many"], [], [], rfl, He.glo_ok X G (c.fact 9 (f := .glo "_law_draw") rfl), F__law_draw.kp, b__law_draw, .nil, fun H => ats_nil.mpr rfl, ok__law_draw F__law_draw mb mc⟩
  have b__law_square : Binds K fd__law_square ["_law_source_here", "_law_far"] [] := F__law_square.bindsN fun _ _ _ _ _ _ us hl => match us, hl with | [_, _], _ => rfl
  have f__law_square : ∀ base, Fn P w K mg base "_law_square" 2 2 [] W__law_square := fun base => ⟨_, fd__law_square, ["_law_source_here", "_law_far"], [], [], rfl, He.glo_ok X G (c.fact 10 (f := .glo "_law_square") rfl), F__law_square.kp, b__law_square, .nil, fun H => ats_nil.mpr rfl, ok__law_square F__law_square mb mc (f__law_draw base)⟩
  have b__law_symmetry : Binds K fd__law_symmetry ["_law_source_here", "_law_far"] [] := F__law_symmetry.bindsN fun _ _ _ _ _ _ us hl => match us, hl with | [_, _], _ => rfl
  have f__law_symmetry : ∀ base, Fn P w K mg base "_law_symmetry" 3 2 [] W__law_symmetry := fun base => ⟨_, fd__law_symmetry, ["_law_source_here", "_law_far"], [], [], rfl, He.glo_ok X G (c.fact 11 (f := .glo "_law_symmetry") rfl), F__law_symmetry.kp, b__law_symmetry, .nil, fun H => ats_nil.mpr rfl, ok__law_symmetry F__law_symmetry mb mc (f__law_square base) (f__law_draw base)⟩
  have b__law_tiling : Binds K fd__law_tiling ["_law_source_here", "_law_far"] [] := F__law_tiling.bindsN fun _ _ _ _ _ _ us hl => match us, hl with | [_, _], _ => rfl
  have f__law_tiling : ∀ base, Fn P w K mg base "_law_tiling" 4 2 [] W__law_tiling := fun base => ⟨_, fd__law_tiling, ["_law_source_here", "_law_far"], [], [], rfl, He.glo_ok X G (c.fact 12 (f := .glo "_law_tiling") rfl), F__law_tiling.kp, b__law_tiling, .nil, fun H => ats_nil.mpr rfl, ok__law_tiling F__law_tiling mb mc (f__law_square base) (f__law_symmetry base) (f__law_draw base)⟩
  have b__law_choose : Binds K fd__law_choose ["_law_source_here", "_law_values"] [] := F__law_choose.bindsN fun _ _ _ _ _ _ us hl => match us, hl with | [_, _], _ => rfl
  have f__law_choose : ∀ base, Fn P w K mg base "_law_choose" 2 2 [] W__law_choose := fun base => ⟨_, fd__law_choose, ["_law_source_here", "_law_values"], [], [], rfl, He.glo_ok X G (c.fact 13 (f := .glo "_law_choose") rfl), F__law_choose.kp, b__law_choose, .nil, fun H => ats_nil.mpr rfl, ok__law_choose F__law_choose mb mc (f__law_draw base)⟩
  have b__law_generators : Binds K fd__law_generators ["_law_source_here", "_law_most", "_law_far"] [] := F__law_generators.bindsN fun _ _ _ _ _ _ us hl => match us, hl with | [_, _, _], _ => rfl
  have f__law_generators : ∀ base, Fn P w K mg base "_law_generators" 4 3 [] W__law_generators := fun base => ⟨_, fd__law_generators, ["_law_source_here", "_law_most", "_law_far"], [], [], rfl, He.glo_ok X G (c.fact 14 (f := .glo "_law_generators") rfl), F__law_generators.kp, b__law_generators, .nil, fun H => ats_nil.mpr rfl, ok__law_generators F__law_generators mb mc (f__law_draw base) (f__law_square base) (f__law_symmetry base) (f__law_choose base)⟩
  have b__law_any_group : Binds K fd__law_any_group ["_law_source_here"] [] := F__law_any_group.bindsN fun _ _ _ _ _ _ us hl => match us, hl with | [_], _ => rfl
  have f__law_any_group : ∀ base, Fn P w K mg base "_law_any_group" 5 1 [] W_grp := fun base => ⟨_, fd__law_any_group, ["_law_source_here"], [], [], rfl, He.glo_ok X G (c.fact 15 (f := .glo "_law_any_group") rfl), F__law_any_group.kp, b__law_any_group, .nil, fun H => ats_nil.mpr rfl, ok__law_any_group F__law_any_group mb mc (f__law_tiling base) (f__law_generators base) (f__law_draw base)⟩
  have b__law_inverse : Binds K fd__law_inverse ["_law_symmetry_here"] [] := F__law_inverse.bindsN fun _ _ _ _ _ _ us hl => match us, hl with | [_], _ => rfl
  have f__law_inverse : ∀ base, Fn P w K mg base "_law_inverse" 2 1 [] W__law_inverse := fun base => ⟨_, fd__law_inverse, ["_law_symmetry_here"], [], [], rfl, He.glo_ok X G (c.fact 16 (f := .glo "_law_inverse") rfl), F__law_inverse.kp, b__law_inverse, .nil, fun H => ats_nil.mpr rfl, ok__law_inverse F__law_inverse mb mc (f__law_linear base)⟩
  have b__law_carried : Binds K fd__law_carried ["_law_symmetry_here", "_law_other"] [] := F__law_carried.bindsN fun _ _ _ _ _ _ us hl => match us, hl with | [_, _], _ => rfl
  have f__law_carried : ∀ base, Fn P w K mg base "_law_carried" 4 2 [] W__law_carried := fun base => ⟨_, fd__law_carried, ["_law_symmetry_here", "_law_other"], [], [], rfl, He.glo_ok X G (c.fact 17 (f := .glo "_law_carried") rfl), F__law_carried.kp, b__law_carried, .nil, fun H => ats_nil.mpr rfl, ok__law_carried F__law_carried mb mc (f__law_product base) (f__law_inverse base)⟩
  have b__law_named_group : Binds K fd__law_named_group ["_law_source_here"] [] := F__law_named_group.bindsN fun _ _ _ _ _ _ us hl => match us, hl with | [_], _ => rfl
  have f__law_named_group : ∀ base, Fn P w K mg base "_law_named_group" 5 1 [] W_grp := fun base => ⟨_, fd__law_named_group, ["_law_source_here"], [], [], rfl, He.glo_ok X G (c.fact 18 (f := .glo "_law_named_group") rfl), F__law_named_group.kp, b__law_named_group, .nil, fun H => ats_nil.mpr rfl, ok__law_named_group F__law_named_group mb mc (f__law_choose base) (f__law_symmetry base) (f__law_carried base) (f__law_draw base)⟩
  have b__law_group_of_any_sort : Binds K fd__law_group_of_any_sort ["_law_source_here"] [] := F__law_group_of_any_sort.bindsN fun _ _ _ _ _ _ us hl => match us, hl with | [_], _ => rfl
  have f__law_group_of_any_sort : ∀ base, Fn P w K mg base "_law_group_of_any_sort" 6 1 [] W_grp := fun base => ⟨_, fd__law_group_of_any_sort, ["_law_source_here"], [], [], rfl, He.glo_ok X G (c.fact 19 (f := .glo "_law_group_of_any_sort") rfl), F__law_group_of_any_sort.kp, b__law_group_of_any_sort, .nil, fun H => ats_nil.mpr rfl, ok__law_group_of_any_sort F__law_group_of_any_sort mb mc (f__law_group base) (f__law_tiling base) (f__law_any_group base) (f__law_named_group base) (f__law_draw base) (gl_of (He.glo_ok X G (c.fact 15 (f := .glo "_law_any_group") rfl))) (gl_of (He.glo_ok X G (c.fact 18 (f := .glo "_law_named_group") rfl))) (fv_of (k := 5) (f__law_any_group base) (by decide) (He.glo_ok X G (c.fact 15 (f := .glo "_law_any_group") rfl))) (fv_of (k := 5) (f__law_named_group base) (by decide) (He.glo_ok X G (c.fact 18 (f := .glo "_law_named_group") rfl)))⟩
  have b_is_integer : Binds K fd_is_integer ["thing"] [] := F_is_integer.bindsN fun _ _ _ _ _ _ us hl => match us, hl with | [_], _ => rfl
  have f_is_integer : ∀ base, Fn P w K mg base "is_integer" 1 1 [] W_is_integer := fun base => ⟨_, fd_is_integer, ["thing"], [], [], rfl, He.glo_ok X G (c.fact 20 (f := .glo "is_integer") rfl), F_is_integer.kp, b_is_integer, .nil, fun H => ats_nil.mpr rfl, ok_is_integer F_is_integer mb mc⟩
  have b_is_between : Binds K fd_is_between ["thing", "least", "most"] [] := F_is_between.bindsN fun _ _ _ _ _ _ us hl => match us, hl with | [_, _, _], _ => rfl
  have f_is_between : ∀ base, Fn P w K mg base "is_between" 2 3 [] W_is_between := fun base => ⟨_, fd_is_between, ["thing", "least", "most"], [], [], rfl, He.glo_ok X G (c.fact 21 (f := .glo "is_between") rfl), F_is_between.kp, b_is_between, .nil, fun H => ats_nil.mpr rfl, ok_is_between F_is_between mb mc (f_is_integer base)⟩
  have b_is_symmetry : Binds K fd_is_symmetry ["thing"] [] := F_is_symmetry.bindsN fun _ _ _ _ _ _ us hl => match us, hl with | [_], _ => rfl
  have f_is_symmetry : ∀ base, Fn P w K mg base "is_symmetry" 3 1 [] W_is_symmetry := fun base => ⟨_, fd_is_symmetry, ["thing"], [], [], rfl, He.glo_ok X G (c.fact 22 (f := .glo "is_symmetry") rfl), F_is_symmetry.kp, b_is_symmetry, .nil, fun H => ats_nil.mpr rfl, ok_is_symmetry F_is_symmetry mb mc (f_is_between base) (f_is_integer base)⟩
  have b_is_generators : Binds K fd_is_generators ["thing"] [] := F_is_generators.bindsN fun _ _ _ _ _ _ us hl => match us, hl with | [_], _ => rfl
  have f_is_generators : ∀ base, Fn P w K mg base "is_generators" 4 1 [] W_is_generators := fun base => ⟨_, fd_is_generators, ["thing"], [], [], rfl, He.glo_ok X G (c.fact 23 (f := .glo "is_generators") rfl), F_is_generators.kp, b_is_generators, .nil, fun H => ats_nil.mpr rfl, ok_is_generators F_is_generators mb mc (f_is_symmetry base)⟩
  have b_need_generators : Binds K fd_need_generators ["thing"] [] := F_need_generators.bindsN fun _ _ _ _ _ _ us hl => match us, hl with | [_], _ => rfl
  have f_need_generators : ∀ base, Fn P w K mg base "need_generators" 5 1 [] W_need_generators := fun base => ⟨_, fd_need_generators, ["thing"], [], [], rfl, He.glo_ok X G (c.fact 24 (f := .glo "need_generators") rfl), F_need_generators.kp, b_need_generators, .nil, fun H => ats_nil.mpr rfl, ok_need_generators F_need_generators mb mc (f_is_generators base)⟩
  have b_is_square : Binds K fd_is_square ["thing"] [] := F_is_square.bindsN fun _ _ _ _ _ _ us hl => match us, hl with | [_], _ => rfl
  have f_is_square : ∀ base, Fn P w K mg base "is_square" 2 1 [] W_is_square := fun base => ⟨_, fd_is_square, ["thing"], [], [], rfl, He.glo_ok X G (c.fact 25 (f := .glo "is_square") rfl), F_is_square.kp, b_is_square, .nil, fun H => ats_nil.mpr rfl, ok_is_square F_is_square mb mc (f_is_integer base)⟩
  have b_need_square : Binds K fd_need_square ["thing"] [] := F_need_square.bindsN fun _ _ _ _ _ _ us hl => match us, hl with | [_], _ => rfl
  have f_need_square : ∀ base, Fn P w K mg base "need_square" 3 1 [] W_need_square := fun base => ⟨_, fd_need_square, ["thing"], [], [], rfl, He.glo_ok X G (c.fact 26 (f := .glo "need_square") rfl), F_need_square.kp, b_need_square, .nil, fun H => ats_nil.mpr rfl, ok_need_square F_need_square mb mc (f_is_square base)⟩
  have b_need_all : Binds K fd_need_all ["generators", "start", "goal"] [] := F_need_all.bindsN fun _ _ _ _ _ _ us hl => match us, hl with | [_, _, _], _ => rfl
  have f_need_all : ∀ base, Fn P w K mg base "need_all" 6 3 [] W_need_all := fun base => ⟨_, fd_need_all, ["generators", "start", "goal"], [], [], rfl, He.glo_ok X G (c.fact 27 (f := .glo "need_all") rfl), F_need_all.kp, b_need_all, .nil, fun H => ats_nil.mpr rfl, ok_need_all F_need_all mb mc (f_need_generators base) (f_need_square base)⟩
  obtain ⟨ds2, v2, bd2⟩ := FunD.binds1 (ps := ["vector", "step", "many"]) F_added 2 0 (List.cons_ne_nil _ _) rfl fun _ _ _ _ _ _ _ us its hu hi => match us, its, hu, hi with | [_, _], [_], _, _ => ⟨_, rfl, rfl⟩
  obtain ⟨ds3, v3, bd3⟩ := FunD.binds1 (ps := ["vector", "step", "many"]) F_added 3 1 (List.cons_ne_nil _ _) rfl fun _ _ _ _ _ _ _ us its hu hi => match us, its, hu, hi with | [_, _, _], [_], _, _ => ⟨_, rfl, rfl⟩
  have f_added : ∀ base, Fn P w K mg base "added" 1 3 [.int 1] W_added := fun base => ⟨_, _, ["vector", "step", "many"], [.int 1], ds2, rfl, He.glo_ok X G (c.fact 28 (f := .glo "added") rfl), F_added.kp, bd2, v2, fun H => Ats.of_ints [1], ok_added F_added mb mc⟩
  have f_added3 : ∀ base, Fn P w K mg base "added" 1 3 [] W_added := fun base => ⟨_, _, ["vector", "step", "many"], [], ds3, rfl, He.glo_ok X G (c.fact 28 (f := .glo "added") rfl), F_added.kp, bd3, v3, fun H => ats_nil.mpr rfl, ok_added F_added mb mc⟩
  have b_turned : Binds K fd_turned ["kind", "vector"] [] := F_turned.bindsN fun _ _ _ _ _ _ us hl => match us, hl with | [_, _], _ => rfl
  have f_turned : ∀ base, Fn P w K mg base "turned" 1 2 [] W_turned := fun base => ⟨_, fd_turned, ["kind", "vector"], [], [], rfl, He.glo_ok X G (c.fact 29 (f := .glo "turned") rfl), F_turned.kp, b_turned, .nil, fun H => ats_nil.mpr rfl, ok_turned F_turned mb mc⟩
  have b_offset : Binds K fd_offset ["symmetry"] [] := F_offset.bindsN fun _ _ _ _ _ _ us hl => match us, hl with | [_], _ => rfl
  have f_offset : ∀ base, Fn P w K mg base "offset" 1 1 [] W_offset := fun base => ⟨_, fd_offset, ["symmetry"], [], [], rfl, He.glo_ok X G (c.fact 30 (f := .glo "offset") rfl), F_offset.kp, b_offset, .nil, fun H => ats_nil.mpr rfl, ok_offset F_offset mb mc⟩
  have b_image_of : Binds K fd_image_of ["symmetry", "square"] [] := F_image_of.bindsN fun _ _ _ _ _ _ us hl => match us, hl with | [_, _], _ => rfl
  have f_image_of : ∀ base, Fn P w K mg base "image_of" 2 2 [] W_image_of := fun base => ⟨_, fd_image_of, ["symmetry", "square"], [], [], rfl, He.glo_ok X G (c.fact 31 (f := .glo "image_of") rfl), F_image_of.kp, b_image_of, .nil, fun H => ats_nil.mpr rfl, ok_image_of F_image_of mb mc (f_added base) (f_turned base) (f_offset base)⟩
  have b_kind_after : Binds K fd_kind_after ["first", "second"] [] := F_kind_after.bindsN fun _ _ _ _ _ _ us hl => match us, hl with | [_, _], _ => rfl
  have f_kind_after : ∀ base, Fn P w K mg base "kind_after" 2 2 [] W_kind_after := fun base => ⟨_, fd_kind_after, ["first", "second"], [], [], rfl, He.glo_ok X G (c.fact 32 (f := .glo "kind_after") rfl), F_kind_after.kp, b_kind_after, .nil, fun H => ats_nil.mpr rfl, ok_kind_after F_kind_after mb mc (f_turned base)⟩
  have b_product_of : Binds K fd_product_of ["first", "second"] [] := F_product_of.bindsN fun _ _ _ _ _ _ us hl => match us, hl with | [_, _], _ => rfl
  have f_product_of : ∀ base, Fn P w K mg base "product_of" 3 2 [] W_product_of := fun base => ⟨_, fd_product_of, ["first", "second"], [], [], rfl, He.glo_ok X G (c.fact 33 (f := .glo "product_of") rfl), F_product_of.kp, b_product_of, .nil, fun H => ats_nil.mpr rfl, ok_product_of F_product_of mb mc (f_image_of base) (f_kind_after base) (f_offset base)⟩
  have b_samples_of : Binds K fd_samples_of ["generators"] [] := F_samples_of.bindsN fun _ _ _ _ _ _ us hl => match us, hl with | [_], _ => rfl
  have f_samples_of : ∀ base, Fn P w K mg base "samples_of" 4 1 [] W_samples_of := fun base => ⟨_, fd_samples_of, ["generators"], [], [], rfl, He.glo_ok X G (c.fact 34 (f := .glo "samples_of") rfl), F_samples_of.kp, b_samples_of, .nil, fun H => ats_nil.mpr rfl, ok_samples_of F_samples_of mb mc (f_product_of base)⟩
  have b_divisor : Binds K fd_divisor ["one", "other"] [] := F_divisor.bindsN fun _ _ _ _ _ _ us hl => match us, hl with | [_, _], _ => rfl
  have f_divisor : ∀ base, Fn P w K mg base "divisor" 1 2 [] W_divisor := fun base => ⟨_, fd_divisor, ["one", "other"], [], [], rfl, He.glo_ok X G (c.fact 35 (f := .glo "divisor") rfl), F_divisor.kp, b_divisor, .nil, fun H => ats_nil.mpr rfl, ok_divisor F_divisor mb mc⟩
  have b_basis_of : Binds K fd_basis_of ["vectors"] [] := F_basis_of.bindsN fun _ _ _ _ _ _ us hl => match us, hl with | [_], _ => rfl
  have f_basis_of : ∀ base, Fn P w K mg base "basis_of" 2 1 [] W_basis_of := fun base => ⟨_, fd_basis_of, ["vectors"], [], [], rfl, He.glo_ok X G (c.fact 36 (f := .glo "basis_of") rfl), F_basis_of.kp, b_basis_of, .nil, fun H => ats_nil.mpr rfl, ok_basis_of F_basis_of mb mc (f_divisor base)⟩
  have b_inverse_of : Binds K fd_inverse_of ["symmetry"] [] := F_inverse_of.bindsN fun _ _ _ _ _ _ us hl => match us, hl with | [_], _ => rfl
  have f_inverse_of : ∀ base, Fn P w K mg base "inverse_of" 3 1 [] W_inverse_of := fun base => ⟨_, fd_inverse_of, ["symmetry"], [], [], rfl, He.glo_ok X G (c.fact 37 (f := .glo "inverse_of") rfl), F_inverse_of.kp, b_inverse_of, .nil, fun H => ats_nil.mpr rfl, ok_inverse_of F_inverse_of mb mc (f_turned base) (f_offset base) (f_kind_after base)⟩
  have b_shifts_of : Binds K fd_shifts_of ["generators", "samples"] [] := F_shifts_of.bindsN fun _ _ _ _ _ _ us hl => match us, hl with | [_, _], _ => rfl
  have f_shifts_of : ∀ base, Fn P w K mg base "shifts_of" 4 2 [] W_shifts_of := fun base => ⟨_, fd_shifts_of, ["generators", "samples"], [], [], rfl, He.glo_ok X G (c.fact 38 (f := .glo "shifts_of") rfl), F_shifts_of.kp, b_shifts_of, .nil, fun H => ats_nil.mpr rfl, ok_shifts_of F_shifts_of mb mc (f_product_of base) (f_inverse_of base)⟩
  have b_leading : Binds K fd_leading ["step"] [] := F_leading.bindsN fun _ _ _ _ _ _ us hl => match us, hl with | [_], _ => rfl
  have f_leading : ∀ base, Fn P w K mg base "leading" 1 1 [] W_leading := fun base => ⟨_, fd_leading, ["step"], [], [], rfl, He.glo_ok X G (c.fact 39 (f := .glo "leading") rfl), F_leading.kp, b_leading, .nil, fun H => ats_nil.mpr rfl, ok_leading F_leading mb mc⟩
  have b_coordinates : Binds K fd_coordinates ["basis", "vector"] [] := F_coordinates.bindsN fun _ _ _ _ _ _ us hl => match us, hl with | [_, _], _ => rfl
  have f_coordinates : ∀ base, Fn P w K mg base "coordinates" 2 2 [] W_coordinates := fun base => ⟨_, fd_coordinates, ["basis", "vector"], [], [], rfl, He.glo_ok X G (c.fact 40 (f := .glo "coordinates") rfl), F_coordinates.kp, b_coordinates, .nil, fun H => ats_nil.mpr rfl, ok_coordinates F_coordinates mb mc (f_added base) (f_added3 base) (f_leading base)⟩
  have b_reduced : Binds K fd_reduced ["basis", "vector"] [] := F_reduced.bindsN fun _ _ _ _ _ _ us hl => match us, hl with | [_, _], _ => rfl
  have f_reduced : ∀ base, Fn P w K mg base "reduced" 3 2 [] W_reduced := fun base => ⟨_, fd_reduced, ["basis", "vector"], [], [], rfl, He.glo_ok X G (c.fact 41 (f := .glo "reduced") rfl), F_reduced.kp, b_reduced, .nil, fun H => ats_nil.mpr rfl, ok_reduced F_reduced mb mc (f_coordinates base)⟩
  have b_reduced_by : Binds K fd_reduced_by ["basis", "symmetry"] [] := F_reduced_by.bindsN fun _ _ _ _ _ _ us hl => match us, hl with | [_, _], _ => rfl
  have f_reduced_by : ∀ base, Fn P w K mg base "reduced_by" 4 2 [] W_reduced_by := fun base => ⟨_, fd_reduced_by, ["basis", "symmetry"], [], [], rfl, He.glo_ok X G (c.fact 42 (f := .glo "reduced_by") rfl), F_reduced_by.kp, b_reduced_by, .nil, fun H => ats_nil.mpr rfl, ok_reduced_by F_reduced_by mb mc (f_reduced base) (f_offset base)⟩
  have b_describe_by : Binds K fd_describe_by ["generators"] [] := F_describe_by.bindsN fun _ _ _ _ _ _ us hl => match us, hl with | [_], _ => rfl
  have f_describe_by : ∀ base, Fn P w K mg base "describe_by" 5 1 [] W_describe_by := fun base => ⟨_, fd_describe_by, ["generators"], [], [], rfl, He.glo_ok X G (c.fact 43 (f := .glo "describe_by") rfl), F_describe_by.kp, b_describe_by, .nil, fun H => ats_nil.mpr rfl, ok_describe_by F_describe_by mb mc (f_samples_of base) (f_basis_of base) (f_offset base) (f_shifts_of base) (f_reduced_by base)⟩
  have b_difference_of : Binds K fd_difference_of ["goal", "square"] [] := F_difference_of.bindsN fun _ _ _ _ _ _ us hl => match us, hl with | [_, _], _ => rfl
  have f_difference_of : ∀ base, Fn P w K mg base "difference_of" 2 2 [] W_difference_of := fun base => ⟨_, fd_difference_of, ["goal", "square"], [], [], rfl, He.glo_ok X G (c.fact 44 (f := .glo "difference_of") rfl), F_difference_of.kp, b_difference_of, .nil, fun H => ats_nil.mpr rfl, ok_difference_of F_difference_of mb mc (f_added base) (f_added3 base)⟩
  have b_is_step : Binds K fd_is_step ["basis", "vector"] [] := F_is_step.bindsN fun _ _ _ _ _ _ us hl => match us, hl with | [_, _], _ => rfl
  have f_is_step : ∀ base, Fn P w K mg base "is_step" 4 2 [] W_is_step := fun base => ⟨_, fd_is_step, ["basis", "vector"], [], [], rfl, He.glo_ok X G (c.fact 45 (f := .glo "is_step") rfl), F_is_step.kp, b_is_step, .nil, fun H => ats_nil.mpr rfl, ok_is_step F_is_step mb mc (f_reduced base)⟩
  have b_carrying : Binds K fd_carrying ["description", "start", "goal"] [] := F_carrying.bindsN fun _ _ _ _ _ _ us hl => match us, hl with | [_, _, _], _ => rfl
  have f_carrying : ∀ base, Fn P w K mg base "carrying" 5 3 [] W_carrying := fun base => ⟨_, fd_carrying, ["description", "start", "goal"], [], [], rfl, He.glo_ok X G (c.fact 46 (f := .glo "carrying") rfl), F_carrying.kp, b_carrying, .nil, fun H => ats_nil.mpr rfl, ok_carrying F_carrying mb mc (f_difference_of base) (f_is_step base) (f_image_of base) (f_added base) (f_added3 base) (f_offset base)⟩
  have b_repeated : Binds K fd_repeated ["symmetry", "times"] [] := F_repeated.bindsN fun _ _ _ _ _ _ us hl => match us, hl with | [_, _], _ => rfl
  have f_repeated : ∀ base, Fn P w K mg base "repeated" 4 2 [] W_repeated := fun base => ⟨_, fd_repeated, ["symmetry", "times"], [], [], rfl, He.glo_ok X G (c.fact 47 (f := .glo "repeated") rfl), F_repeated.kp, b_repeated, .nil, fun H => ats_nil.mpr rfl, ok_repeated F_repeated mb mc (f_product_of base)⟩
  have b_power_of : Binds K fd_power_of ["symmetry", "exponent"] [] := F_power_of.bindsN fun _ _ _ _ _ _ us hl => match us, hl with | [_, _], _ => rfl
  have f_power_of : ∀ base, Fn P w K mg base "power_of" 5 2 [] W_power_of := fun base => ⟨_, fd_power_of, ["symmetry", "exponent"], [], [], rfl, He.glo_ok X G (c.fact 48 (f := .glo "power_of") rfl), F_power_of.kp, b_power_of, .nil, fun H => ats_nil.mpr rfl, ok_power_of F_power_of mb mc (f_offset base) (f_repeated base) (f_added base) (f_added3 base) (f_product_of base)⟩
  have b_line_value : Binds K fd_line_value ["values", "line"] [] := F_line_value.bindsN fun _ _ _ _ _ _ us hl => match us, hl with | [_, _], _ => rfl
  have f_line_value : ∀ base, Fn P w K mg base "line_value" 6 2 [] W_line_value := fun base => ⟨_, fd_line_value, ["values", "line"], [], [], rfl, He.glo_ok X G (c.fact 49 (f := .glo "line_value") rfl), F_line_value.kp, b_line_value, .nil, fun H => ats_nil.mpr rfl, ok_line_value F_line_value mb mc (f_product_of base) (f_power_of base)⟩
  have b_Writer_write : Binds K fd_Writer_write ["self", "line"] [] := F_Writer_write.bindsN fun _ _ _ _ _ _ us hl => match us, hl with | [_, _], _ => rfl
  have m_write : ∀ base, Mt P w K mg base C "write" 7 2 (W_write C) := fun base => ⟨_, fd_Writer_write, ["self", "line"], rfl, hCe ▸ He.meth_ok (c.fact 100 (f := .meth "Writer" "write") rfl), b_Writer_write, ok_write F_Writer_write wc mb mc (f_line_value base)⟩
  have b_Writer_written_samples : Binds K fd_Writer_written_samples ["self"] [] := F_Writer_written_samples.bindsN fun _ _ _ _ _ _ us hl => match us, hl with | [_], _ => rfl
  have m_written_samples : ∀ base, Mt P w K mg base C "written_samples" 8 1 (W_written_samples C) := fun base => ⟨_, fd_Writer_written_samples, ["self"], rfl, hCe ▸ He.meth_ok (c.fact 101 (f := .meth "Writer" "written_samples") rfl), b_Writer_written_samples, ok_written_samples F_Writer_written_samples wc mb mc (m_write base) (f_kind_after base)⟩
  have b_Writer_step_of : Binds K fd_Writer_step_of ["self", "reference"] [] := F_Writer_step_of.bindsN fun _ _ _ _ _ _ us hl => match us, hl with | [_, _], _ => rfl
  have m_step_of : ∀ base, Mt P w K mg base C "step_of" 2 2 (W_step_of C) := fun base => ⟨_, fd_Writer_step_of, ["self", "reference"], rfl, hCe ▸ He.meth_ok (c.fact 102 (f := .meth "Writer" "step_of") rfl), b_Writer_step_of, ok_step_of F_Writer_step_of wc mb mc (f_offset base)⟩
  have b_Writer_divided : Binds K fd_Writer_divided ["self", "one", "other", "index"] [] := F_Writer_divided.bindsN fun _ _ _ _ _ _ us hl => match us, hl with | [_, _, _, _], _ => rfl
  have m_divided : ∀ base, Mt P w K mg base C "divided" 8 4 (W_divided C) := fun base => ⟨_, fd_Writer_divided, ["self", "one", "other", "index"], rfl, hCe ▸ He.meth_ok (c.fact 103 (f := .meth "Writer" "divided") rfl), b_Writer_divided, ok_divided F_Writer_divided wc mb mc (m_step_of base) (m_write base)⟩
  have b_Writer_write_steps : Binds K fd_Writer_write_steps ["self"] [] := F_Writer_write_steps.bindsN fun _ _ _ _ _ _ us hl => match us, hl with | [_], _ => rfl
  have m_write_steps : ∀ base, Mt P w K mg base C "write_steps" 9 1 (W_write_steps C) := fun base => ⟨_, fd_Writer_write_steps, ["self"], rfl, hCe ▸ He.meth_ok (c.fact 104 (f := .meth "Writer" "write_steps") rfl), b_Writer_write_steps, ok_write_steps F_Writer_write_steps wc mb mc (f_product_of base) (f_offset base) (f_is_step base) (m_divided base) (f_inverse_of base) (f_basis_of base) (m_write base) (m_step_of base)⟩
  have b_Writer___init__ : Binds K fd_Writer___init__ ["self", "generators"] [] := F_Writer___init__.bindsN fun _ _ _ _ _ _ us hl => match us, hl with | [_, _], _ => rfl
  have f_Writer : ∀ base, Mkr P w K mg base "Writer" C 10 2 (W___init__ C) := fun base => ⟨_, fd_Writer___init__, ["self", "generators"], hC, rfl, hCe ▸ He.mkr_ok (c.fact 94 (f := .mkr "Writer") rfl), b_Writer___init__, ok___init__ F_Writer___init__ wc mb mc (m_written_samples base) (m_write_steps base)⟩
  have b_Writer_write_symmetry : Binds K fd_Writer_write_symmetry ["self", "symmetry"] [] := F_Writer_write_symmetry.bindsN fun _ _ _ _ _ _ us hl => match us, hl with | [_, _], _ => rfl
  have m_write_symmetry : ∀ base, Mt P w K mg base C "write_symmetry" 8 2 (W_write_symmetry C) := fun base => ⟨_, fd_Writer_write_symmetry, ["self", "symmetry"], rfl, hCe ▸ He.meth_ok (c.fact 105 (f := .meth "Writer" "write_symmetry") rfl), b_Writer_write_symmetry, ok_write_symmetry F_Writer_write_symmetry wc mb mc (m_write base) (m_step_of base)⟩
  have b_program_by : Binds K fd_program_by ["generators", "symmetry"] [] := F_program_by.bindsN fun _ _ _ _ _ _ us hl => match us, hl with | [_, _], _ => rfl
  have f_program_by : ∀ base, Fn P w K mg base "program_by" 12 2 [] W_program_by := fun base => ⟨_, fd_program_by, ["generators", "symmetry"], [], [], rfl, He.glo_ok X G (c.fact 50 (f := .glo "program_by") rfl), F_program_by.kp, b_program_by, .nil, fun H => ats_nil.mpr rfl, ok_program_by F_program_by wc mb mc (f_Writer base) (m_write_symmetry base)⟩
  have b_images_of : Binds K fd_images_of ["description", "square"] [] := F_images_of.bindsN fun _ _ _ _ _ _ us hl => match us, hl with | [_, _], _ => rfl
  have f_images_of : ∀ base, Fn P w K mg base "images_of" 4 2 [] W_images_of := fun base => ⟨_, fd_images_of, ["description", "square"], [], [], rfl, He.glo_ok X G (c.fact 51 (f := .glo "images_of") rfl), F_images_of.kp, b_images_of, .nil, fun H => ats_nil.mpr rfl, ok_images_of F_images_of mb mc (f_reduced base) (f_image_of base)⟩
  have b_connect : Binds K fd_connect ["generators", "start", "goal"] [] := F_connect.bindsN fun _ _ _ _ _ _ us hl => match us, hl with | [_, _, _], _ => rfl
  have f_connect : ∀ base, Fn P w K mg base "connect" 13 3 [] W_connect := fun base => ⟨_, fd_connect, ["generators", "start", "goal"], [], [], rfl, He.glo_ok X G (c.fact 52 (f := .glo "connect") rfl), F_connect.kp, b_connect, .nil, fun H => ats_nil.mpr rfl, ok_connect F_connect mb mc (f_need_all base) (f_describe_by base) (f_carrying base) (f_program_by base) (f_images_of base)⟩
  have b_value_of : Binds K fd_value_of ["generators", "program"] [] := F_value_of.bindsN fun _ _ _ _ _ _ us hl => match us, hl with | [_, _], _ => rfl
  have f_value_of : ∀ base, Fn P w K mg base "value_of" 7 2 [] W_value_of := fun base => ⟨_, fd_value_of, ["generators", "program"], [], [], rfl, He.glo_ok X G (c.fact 53 (f := .glo "value_of") rfl), F_value_of.kp, b_value_of, .nil, fun H => ats_nil.mpr rfl, ok_value_of F_value_of mb mc (f_line_value base)⟩
  have b_is_factor : Binds K fd_is_factor ["thing", "many"] [] := F_is_factor.bindsN fun _ _ _ _ _ _ us hl => match us, hl with | [_, _], _ => rfl
  have f_is_factor : ∀ base, Fn P w K mg base "is_factor" 3 2 [] W_is_factor := fun base => ⟨_, fd_is_factor, ["thing", "many"], [], [], rfl, He.glo_ok X G (c.fact 54 (f := .glo "is_factor") rfl), F_is_factor.kp, b_is_factor, .nil, fun H => ats_nil.mpr rfl, ok_is_factor F_is_factor mb mc (f_is_between base) (f_is_integer base)⟩
  have b_is_program : Binds K fd_is_program ["generators", "thing"] [] := F_is_program.bindsN fun _ _ _ _ _ _ us hl => match us, hl with | [_, _], _ => rfl
  have f_is_program : ∀ base, Fn P w K mg base "is_program" 4 2 [] W_is_program := fun base => ⟨_, fd_is_program, ["generators", "thing"], [], [], rfl, He.glo_ok X G (c.fact 55 (f := .glo "is_program") rfl), F_is_program.kp, b_is_program, .nil, fun H => ats_nil.mpr rfl, ok_is_program F_is_program mb mc (f_is_factor base)⟩
  have b_run_program : Binds K fd_run_program ["generators", "program"] [] := F_run_program.bindsN fun _ _ _ _ _ _ us hl => match us, hl with | [_, _], _ => rfl
  have f_run_program : ∀ base, Fn P w K mg base "run_program" 8 2 [] W_run_program := fun base => ⟨_, fd_run_program, ["generators", "program"], [], [], rfl, He.glo_ok X G (c.fact 56 (f := .glo "run_program") rfl), F_run_program.kp, b_run_program, .nil, fun H => ats_nil.mpr rfl, ok_run_program F_run_program mb mc (f_need_generators base) (f_value_of base) (f_is_program base)⟩
  have b_is_apart : Binds K fd_is_apart ["generators", "start", "goal", "squares"] [] := F_is_apart.bindsN fun _ _ _ _ _ _ us hl => match us, hl with | [_, _, _, _], _ => rfl
  have f_is_apart : ∀ base, Fn P w K mg base "is_apart" 6 4 [] W_is_apart := fun base => ⟨_, fd_is_apart, ["generators", "start", "goal", "squares"], [], [], rfl, He.glo_ok X G (c.fact 57 (f := .glo "is_apart") rfl), F_is_apart.kp, b_is_apart, .nil, fun H => ats_nil.mpr rfl, ok_is_apart F_is_apart mb mc (f_describe_by base) (f_reduced base) (f_is_square base) (f_image_of base)⟩
  have b_is_connection : Binds K fd_is_connection ["generators", "start", "goal", "thing"] [] := F_is_connection.bindsN fun _ _ _ _ _ _ us hl => match us, hl with | [_, _, _, _], _ => rfl
  have f_is_connection : ∀ base, Fn P w K mg base "is_connection" 8 4 [] W_is_connection := fun base => ⟨_, fd_is_connection, ["generators", "start", "goal", "thing"], [], [], rfl, He.glo_ok X G (c.fact 58 (f := .glo "is_connection") rfl), F_is_connection.kp, b_is_connection, .nil, fun H => ats_nil.mpr rfl, ok_is_connection F_is_connection mb mc (f_need_all base) (f_is_apart base) (f_is_program base) (f_image_of base) (f_value_of base)⟩
  have b_need_symmetry : Binds K fd_need_symmetry ["thing"] [] := F_need_symmetry.bindsN fun _ _ _ _ _ _ us hl => match us, hl with | [_], _ => rfl
  have f_need_symmetry : ∀ base, Fn P w K mg base "need_symmetry" 4 1 [] W_need_symmetry := fun base => ⟨_, fd_need_symmetry, ["thing"], [], [], rfl, He.glo_ok X G (c.fact 59 (f := .glo "need_symmetry") rfl), F_need_symmetry.kp, b_need_symmetry, .nil, fun H => ats_nil.mpr rfl, ok_need_symmetry F_need_symmetry mb mc (f_is_symmetry base)⟩
  have b_holds : Binds K fd_holds ["description", "symmetry"] [] := F_holds.bindsN fun _ _ _ _ _ _ us hl => match us, hl with | [_, _], _ => rfl
  have f_holds : ∀ base, Fn P w K mg base "holds" 5 2 [] W_holds := fun base => ⟨_, fd_holds, ["description", "symmetry"], [], [], rfl, He.glo_ok X G (c.fact 60 (f := .glo "holds") rfl), F_holds.kp, b_holds, .nil, fun H => ats_nil.mpr rfl, ok_holds F_holds mb mc (f_reduced_by base)⟩
  have b_contains : Binds K fd_contains ["generators", "symmetry"] [] := F_contains.bindsN fun _ _ _ _ _ _ us hl => match us, hl with | [_, _], _ => rfl
  have f_contains : ∀ base, Fn P w K mg base "contains" 6 2 [] W_contains := fun base => ⟨_, fd_contains, ["generators", "symmetry"], [], [], rfl, He.glo_ok X G (c.fact 61 (f := .glo "contains") rfl), F_contains.kp, b_contains, .nil, fun H => ats_nil.mpr rfl, ok_contains F_contains mb mc (f_need_generators base) (f_need_symmetry base) (f_holds base) (f_describe_by base)⟩
  have b_image : Binds K fd_image ["symmetry", "square"] [] := F_image.bindsN fun _ _ _ _ _ _ us hl => match us, hl with | [_, _], _ => rfl
  have f_image : ∀ base, Fn P w K mg base "image" 5 2 [] W_image := fun base => ⟨_, fd_image, ["symmetry", "square"], [], [], rfl, He.glo_ok X G (c.fact 62 (f := .glo "image") rfl), F_image.kp, b_image, .nil, fun H => ats_nil.mpr rfl, ok_image F_image mb mc (f_need_symmetry base) (f_need_square base) (f_image_of base)⟩
  have b__law_program_right : Binds K fd__law_program_right ["_law_source_here", "_law_generators_here", "_law_start", "_law_goal", "_law_actual"] [] := F__law_program_right.bindsN fun _ _ _ _ _ _ us hl => match us, hl with | [_, _, _, _, _], _ => rfl
  have f__law_program_right : ∀ base, Fn P w K mg base "_law_program_right" 9 5 [] W__law_program_right := fun base => ⟨_, fd__law_program_right, ["_law_source_here", "_law_generators_here", "_law_start", "_law_goal", "_law_actual"], [], [], rfl, He.glo_ok X G (c.fact 63 (f := .glo "_law_program_right") rfl), F__law_program_right.kp, b__law_program_right, .nil, fun H => ats_nil.mpr rfl, ok__law_program_right F__law_program_right mb mc (f_run_program base) (f_is_connection base) (f_contains base) (f_image base)⟩
  have b_are_members : Binds K fd_are_members ["basis", "thing"] [] := F_are_members.bindsN fun _ _ _ _ _ _ us hl => match us, hl with | [_, _], _ => rfl
  have f_are_members : ∀ base, Fn P w K mg base "are_members" 5 2 [] W_are_members := fun base => ⟨_, fd_are_members, ["basis", "thing"], [], [], rfl, He.glo_ok X G (c.fact 64 (f := .glo "are_members") rfl), F_are_members.kp, b_are_members, .nil, fun H => ats_nil.mpr rfl, ok_are_members F_are_members mb mc (f_reduced_by base) (f_is_symmetry base)⟩
  have b_is_basis : Binds K fd_is_basis ["thing"] [] := F_is_basis.bindsN fun _ _ _ _ _ _ us hl => match us, hl with | [_], _ => rfl
  have f_is_basis : ∀ base, Fn P w K mg base "is_basis" 3 1 [] W_is_basis := fun base => ⟨_, fd_is_basis, ["thing"], [], [], rfl, He.glo_ok X G (c.fact 65 (f := .glo "is_basis") rfl), F_is_basis.kp, b_is_basis, .nil, fun H => ats_nil.mpr rfl, ok_is_basis F_is_basis mb mc (f_basis_of base) (f_is_integer base)⟩
  have b_is_description : Binds K fd_is_description ["thing"] [] := F_is_description.bindsN fun _ _ _ _ _ _ us hl => match us, hl with | [_], _ => rfl
  have f_is_description : ∀ base, Fn P w K mg base "is_description" 6 1 [] W_is_description := fun base => ⟨_, fd_is_description, ["thing"], [], [], rfl, He.glo_ok X G (c.fact 66 (f := .glo "is_description") rfl), F_is_description.kp, b_is_description, .nil, fun H => ats_nil.mpr rfl, ok_is_description F_is_description mb mc (f_are_members base) (f_is_basis base) (f_is_step base) (f_holds base) (f_turned base) (f_product_of base)⟩
  have b_need_description : Binds K fd_need_description ["thing"] [] := F_need_description.bindsN fun _ _ _ _ _ _ us hl => match us, hl with | [_], _ => rfl
  have f_need_description : ∀ base, Fn P w K mg base "need_description" 7 1 [] W_need_description := fun base => ⟨_, fd_need_description, ["thing"], [], [], rfl, He.glo_ok X G (c.fact 67 (f := .glo "need_description") rfl), F_need_description.kp, b_need_description, .nil, fun H => ats_nil.mpr rfl, ok_need_description F_need_description mb mc (f_is_description base)⟩
  have b_kinds_from : Binds K fd_kinds_from ["kinds"] [] := F_kinds_from.bindsN fun _ _ _ _ _ _ us hl => match us, hl with | [_], _ => rfl
  have f_kinds_from : ∀ base, Fn P w K mg base "kinds_from" 3 1 [] W_kinds_from := fun base => ⟨_, fd_kinds_from, ["kinds"], [], [], rfl, He.glo_ok X G (c.fact 68 (f := .glo "kinds_from") rfl), F_kinds_from.kp, b_kinds_from, .nil, fun H => ats_nil.mpr rfl, ok_kinds_from F_kinds_from mb mc (f_kind_after base)⟩
  have b_generators_by : Binds K fd_generators_by ["description"] [] := F_generators_by.bindsN fun _ _ _ _ _ _ us hl => match us, hl with | [_], _ => rfl
  have f_generators_by : ∀ base, Fn P w K mg base "generators_by" 4 1 [] W_generators_by := fun base => ⟨_, fd_generators_by, ["description"], [], [], rfl, He.glo_ok X G (c.fact 69 (f := .glo "generators_by") rfl), F_generators_by.kp, b_generators_by, .nil, fun H => ats_nil.mpr rfl, ok_generators_by F_generators_by mb mc (f_kinds_from base)⟩
  have b_generators_of : Binds K fd_generators_of ["description"] [] := F_generators_of.bindsN fun _ _ _ _ _ _ us hl => match us, hl with | [_], _ => rfl
  have f_generators_of : ∀ base, Fn P w K mg base "generators_of" 8 1 [] W_generators_of := fun base => ⟨_, fd_generators_of, ["description"], [], [], rfl, He.glo_ok X G (c.fact 70 (f := .glo "generators_of") rfl), F_generators_of.kp, b_generators_of, .nil, fun H => ats_nil.mpr rfl, ok_generators_of F_generators_of mb mc (f_need_description base) (f_generators_by base)⟩
  have b_describe : Binds K fd_describe ["generators"] [] := F_describe.bindsN fun _ _ _ _ _ _ us hl => match us, hl with | [_], _ => rfl
  have f_describe : ∀ base, Fn P w K mg base "describe" 6 1 [] W_describe := fun base => ⟨_, fd_describe, ["generators"], [], [], rfl, He.glo_ok X G (c.fact 71 (f := .glo "describe") rfl), F_describe.kp, b_describe, .nil, fun H => ats_nil.mpr rfl, ok_describe F_describe mb mc (f_need_generators base) (f_describe_by base)⟩
  have b__law_word : Binds K fd__law_word ["_law_source_here", "_law_generators_here", "_law_most"] [] := F__law_word.bindsN fun _ _ _ _ _ _ us hl => match us, hl with | [_, _, _], _ => rfl
  have f__law_word : ∀ base, Fn P w K mg base "_law_word" 4 3 [] W__law_word := fun base => ⟨_, fd__law_word, ["_law_source_here", "_law_generators_here", "_law_most"], [], [], rfl, He.glo_ok X G (c.fact 72 (f := .glo "_law_word") rfl), F__law_word.kp, b__law_word, .nil, fun H => ats_nil.mpr rfl, ok__law_word F__law_word mb mc (f__law_choose base) (f__law_product base) (f__law_draw base) (f__law_inverse base)⟩
  have b__law_squares_right : Binds K fd__law_squares_right ["_law_source_here", "_law_generators_here", "_law_start", "_law_goal", "_law_actual"] [] := F__law_squares_right.bindsN fun _ _ _ _ _ _ us hl => match us, hl with | [_, _, _, _, _], _ => rfl
  have f__law_squares_right : ∀ base, Fn P w K mg base "_law_squares_right" 9 5 [] W__law_squares_right := fun base => ⟨_, fd__law_squares_right, ["_law_source_here", "_law_generators_here", "_law_start", "_law_goal", "_law_actual"], [], [], rfl, He.glo_ok X G (c.fact 73 (f := .glo "_law_squares_right") rfl), F__law_squares_right.kp, b__law_squares_right, .nil, fun H => ats_nil.mpr rfl, ok__law_squares_right F__law_squares_right mb mc (f_generators_of base) (f_describe base) (f_image base) (f_is_connection base) (f__law_word base)⟩
  have b_representative_by : Binds K fd_representative_by ["description", "square"] [] := F_representative_by.bindsN fun _ _ _ _ _ _ us hl => match us, hl with | [_, _], _ => rfl
  have f_representative_by : ∀ base, Fn P w K mg base "representative_by" 5 2 [] W_representative_by := fun base => ⟨_, fd_representative_by, ["description", "square"], [], [], rfl, He.glo_ok X G (c.fact 74 (f := .glo "representative_by") rfl), F_representative_by.kp, b_representative_by, .nil, fun H => ats_nil.mpr rfl, ok_representative_by F_representative_by mb mc (f_images_of base)⟩
  have b_representative : Binds K fd_representative ["generators", "square"] [] := F_representative.bindsN fun _ _ _ _ _ _ us hl => match us, hl with | [_, _], _ => rfl
  have f_representative : ∀ base, Fn P w K mg base "representative" 6 2 [] W_representative := fun base => ⟨_, fd_representative, ["generators", "square"], [], [], rfl, He.glo_ok X G (c.fact 75 (f := .glo "representative") rfl), F_representative.kp, b_representative, .nil, fun H => ats_nil.mpr rfl, ok_representative F_representative mb mc (f_need_generators base) (f_need_square base) (f_representative_by base) (f_describe_by base)⟩
  have e0 := hfa.symm.trans (He.glo_ok X G (c.fact 76 (f := .glo "law") rfl))
  cases e0
  have b := FunD.bindsA (ps := ["_law_script"]) F_law fun _ _ _ _ _ _ us hl => match us, hl with | [_], _ => rfl
  exact ⟨fd_law, fun s v => b s [v] rfl, fun base => ok_law F_law mb mc (f__law_source base) (f__law_cell base) (f__law_group_of_any_sort base) (f_connect base) (f__law_program_right base) (f__law_squares_right base) (f__law_square base) (f_image base) (f_representative base) (f__law_word base) (f_is_connection base) (gl_of (He.glo_ok X G (c.fact 63 (f := .glo "_law_program_right") rfl))) (gl_of (He.glo_ok X G (c.fact 73 (f := .glo "_law_squares_right") rfl))) (fv_of (k := 9) (f__law_program_right base) (by decide) (He.glo_ok X G (c.fact 63 (f := .glo "_law_program_right") rfl))) (fv_of (k := 9) (f__law_squares_right base) (by decide) (He.glo_ok X G (c.fact 73 (f := .glo "_law_squares_right") rfl)))⟩
end G
end
section
set_option Elab.async false
set_option linter.all false
set_option maxRecDepth 100000
set_option maxHeartbeats 4000000
namespace G
open PySem L2
/-- the script, as the law's promise wants it -/
theorem law_sp {K : PySem.W.Frag} {H : Hp} {a : Addr} {ns : List Int} (hO : Only H) (hS : SqL K H a (ns.map V.int)) : spW K 1 W_law [.ref a] H (fun v _ => v = .bl true) fun _ _ _ => False := by
  refine ⟨[], [.scr ns], _, ⟨rfl, _, ⟨ns, rfl, rfl⟩, rfl⟩, rfl, Ats.one ?_, (fun e he => by cases he), List.nodup_nil, ?_⟩
  · unfold At
    refine ⟨a, rfl, ?_⟩
    rcases hS with (h | ⟨o, h⟩) | h
    · rcases hO a with q | ⟨o, xs, q⟩
      · rw [q] at h; cases h
      · rw [q] at h; cases h
    · exact .inl ⟨o, h⟩
    · exact .inr (.inr h)
  · rintro d st' v H' ⟨hd, _⟩ _ _ hA
    have e : d = .bl true := hd
    subst e
    exact at_bl.mp hA
end G
end
open PySem PySem.W PySem.Calls PyProof.Rows
set_option Elab.async false
set_option linter.all false
set_option maxRecDepth 100000
set_option maxHeartbeats 8000000
theorem PySem.Challenge.cw_gridsym_k47_whole_connections_holds : PySem.Challenge.rw_gridsym_k47_whole_connections.Holds := by
  w_on; o_law
  refine HandSHeadRun.head_any (r := G.rowS) (q := G.viewS) (H := G.hkS) (ob := G.obS) (M := 20000) (loose := G.nms) (d := HandSHeadRun.topDef G.rowS.prog 98) (kwd := []) G.obS_eq
    (by kernel_rfl) (fun s => by kernel_rfl) G.runS (by kernel_rfl) (by kernel_rfl) (by kernel_rfl) (by rfl) (by first | assumption | decide +kernel) (by decide +kernel) ⟨rfl, rfl, rfl, rfl, rfl, by decide +kernel⟩ ?hw ?hc
  case hw => w_witness2
  case hc =>
    refine L2.walk_ofE (l := PySem.Challenge.rw_gridsym_k47_whole_connections) (n := 63) (k := 14) (x := "_law_script") (CX := L2.CX0) rfl (by decide) (by kernel_rfl) ⟨rfl, by decide, by decide⟩ ?F (fun _ _ _ _ z => z)
    intro w mg f h Y G0 hmg0
    obtain ⟨K, KX, c, cs⟩ := Y
    have hmg : mg ("law" : PySem.Str) = some (.ref f) := by
      have e : (HandSHeadRun.topDef G.rowS.prog 98).name = ("law" : PySem.Str) := by kernel_rfl
      exact e ▸ hmg0
    obtain ⟨fd, hb, hF⟩ := G.facts (P := PySem.Challenge.rw_gridsym_k47_whole_connections.prog) (w := w) KX G0 hmg c cs
    exact ⟨K, fd, G.spW K 1 G.W_law, KX, hb, fun H a ns hl hO hS => G.law_sp hO hS, fun base _ _ => hF base⟩
