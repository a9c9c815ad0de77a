import PyProof.Rows.All
import Wide.All
import OpenK.AllK
import Wide.FinOn
import HandS.ForMost
import HandS.ForExc
import HandS.Wide
import HandS.TupAny
import HandS.IsInst
import HandS.Deep
import HandS.SortRule
import HandS.NamedTupSort
import HandS.TupSets
import KE.KDictCopyH
import HandS.SetFor
import HandS.Rev
import HandS.Strs
import HandS.Codes
import HandS.Replace
import HandS.Style
import HandS.Conv
import HandS.ExcIs
import HandS.SuiteRaise
import PySem.Challenge.RW_greenturns_k10_texts_read
set_option Elab.async false
set_option linter.all false
set_option maxRecDepth 100000
set_option maxHeartbeats 4000000
/-! GT: a symbolic layer over the hand layer: data of scalars and tuples (Dt), own objects (Ob), what a frame knows (Sat), what an expression gives (Ev), a statement's goal (Nx). -/
namespace GT
open PySem L2
abbrev Fg := PySem.W.Frag
/-- data: scalars, tuples, references -/
inductive Dt where
  | non | bl (b : Bool) | int (i : Int) | str (x : Str) | tup (ds : List Dt) | adr (a : Addr)
/-- what is never changed stays -/
def Keep (H H' : Hp) : Prop := ∀ a o, H a = some o → ¬ Mut (some o) → H' a = some o
theorem Keep.refl (H : Hp) : Keep H H := fun _ _ h _ => h
theorem Keep.trans {H H1 H2 : Hp} (a : Keep H H1) (b : Keep H1 H2) : Keep H H2 := fun x o h n => b x o (a x o h n) n
theorem Keep.of {H H' : Hp} (e : Same H H') : Keep H H' := fun a o h _ => e a o h
theorem Keep.mut {H : Hp} {a : Addr} {o : HO} (m : Mut (H a)) : Keep H (upd H a o) := fun b u h n => by
  have hb : b ≠ a := by
    rintro rfl
    rw [h] at m
    exact n m
  rw [upd_ne hb]
  exact h
theorem Same.new {H : Hp} {p : Addr} {o : HO} (h : H p = none) : Same H (upd H p o) := fun a u e => by
  rw [upd_ne (ne_of_none e h)]
  exact e
theorem keep_t {K : Fg} {H H' : Hp} {a : Addr} {xs : List V} (e : Keep H H') (h : SqT K H a xs) : SqT K H' a xs := by
  rcases h with (h | ⟨o, h⟩) | h
  · exact .inl (.inl (e _ _ h (fun z => z)))
  · exact .inl (.inr ⟨o, e _ _ h (fun z => z)⟩)
  · exact .inr h
mutual
inductive Tp (K : Fg) (H : Hp) : V → Dt → Prop
  | non : Tp K H .non .non
  | bl (b : Bool) : Tp K H (.bl b) (.bl b)
  | int (i : Int) : Tp K H (.int i) (.int i)
  | str (x : Str) : Tp K H (.str x) (.str x)
  | adr (a : Addr) : Tp K H (.ref a) (.adr a)
  | tup {a : Addr} {xs : List V} {ds : List Dt} : SqT K H a xs → TpA K H xs ds → Tp K H (.ref a) (.tup ds)
inductive TpA (K : Fg) (H : Hp) : List V → List Dt → Prop
  | nil : TpA K H [] []
  | cons {v : V} {vs : List V} {d : Dt} {ds : List Dt} : Tp K H v d → TpA K H vs ds → TpA K H (v :: vs) (d :: ds)
end
mutual
theorem Tp.keep {K : Fg} {H H' : Hp} (e : Keep H H') : ∀ {v : V} {d : Dt}, Tp K H v d → Tp K H' v d
  | _, _, .non => .non
  | _, _, .bl b => .bl b
  | _, _, .int i => .int i
  | _, _, .str x => .str x
  | _, _, .adr a => .adr a
  | _, _, .tup h t => .tup (keep_t e h) (TpA.keep e t)
theorem TpA.keep {K : Fg} {H H' : Hp} (e : Keep H H') : ∀ {v : List V} {d : List Dt}, TpA K H v d → TpA K H' v d
  | _, _, .nil => .nil
  | _, _, .cons h t => .cons (Tp.keep e h) (TpA.keep e t)
end
theorem Tp.same {K : Fg} {H H' : Hp} (e : Same H H') {v : V} {d : Dt} (h : Tp K H v d) : Tp K H' v d := h.keep (.of e)
theorem TpA.same {K : Fg} {H H' : Hp} (e : Same H H') {v : List V} {d : List Dt} (h : TpA K H v d) : TpA K H' v d := h.keep (.of e)
section
variable {K : Fg} {H H' : Hp}
theorem TpA.length : ∀ {vs : List V} {ds : List Dt}, TpA K H vs ds → vs.length = ds.length
  | _, _, .nil => rfl
  | _, _, .cons _ t => congrArg (· + 1) (TpA.length t)
theorem TpA.get : ∀ {vs : List V} {ds : List Dt} {i : Nat} {d : Dt}, TpA K H vs ds → ds[i]? = some d → ∃ v, vs[i]? = some v ∧ Tp K H v d
  | _, _, _, _, .nil, e => by simp at e
  | _, _, 0, _, .cons r _, e => by simp at e; subst e; exact ⟨_, rfl, r⟩
  | _, _, i + 1, d, .cons _ t, e => by
    obtain ⟨u, h1, h2⟩ := TpA.get (i := i) (d := d) t (by simpa using e)
    exact ⟨u, by simpa using h1, h2⟩
theorem TpA.getV {vs : List V} {ds : List Dt} {i : Nat} {v : V} (h : TpA K H vs ds) (e : vs[i]? = some v) : ∃ d, ds[i]? = some d ∧ Tp K H v d := by
  have hi : i < ds.length := by
    rw [← h.length]
    exact (List.getElem?_eq_some_iff.mp e).1
  obtain ⟨u, h1, h2⟩ := h.get (List.getElem?_eq_getElem hi)
  rw [e] at h1
  cases h1
  exact ⟨_, List.getElem?_eq_getElem hi, h2⟩
theorem TpA.append : ∀ {vs ws : List V} {ds es : List Dt}, TpA K H vs ds → TpA K H ws es → TpA K H (vs ++ ws) (ds ++ es)
  | _, _, _, _, .nil, s => s
  | _, _, _, _, .cons r t, s => .cons r (TpA.append t s)
theorem TpA.set {v : V} {d : Dt} (r : Tp K H v d) : ∀ {vs : List V} {ds : List Dt} (i : Nat), TpA K H vs ds → TpA K H (vs.set i v) (ds.set i d)
  | _, _, _, .nil => .nil
  | _, _, 0, .cons _ t => .cons r t
  | _, _, i + 1, .cons q t => .cons q (TpA.set r i t)
theorem TpA.take : ∀ {vs : List V} {ds : List Dt} (n : Nat), TpA K H vs ds → TpA K H (vs.take n) (ds.take n)
  | _, _, 0, _ => .nil
  | _, _, _ + 1, .nil => .nil
  | _, _, n + 1, .cons r t => .cons r (TpA.take n t)
theorem TpA.drop : ∀ {vs : List V} {ds : List Dt} (n : Nat), TpA K H vs ds → TpA K H (vs.drop n) (ds.drop n)
  | _, _, 0, r => r
  | _, _, _ + 1, .nil => .nil
  | _, _, n + 1, .cons _ t => TpA.drop n t
theorem TpA.ints : ∀ {vs : List V} (ns : List Int), TpA K H vs (ns.map Dt.int) → vs = ns.map V.int
  | _, [], h => by cases h; rfl
  | _, n :: ns, h => by
    cases h with
    | cons r t =>
      cases r
      rw [TpA.ints ns t]
      rfl
theorem TpA.of_ints : ∀ (ns : List Int), TpA K H (ns.map V.int) (ns.map Dt.int)
  | [] => .nil
  | n :: ns => .cons (.int n) (TpA.of_ints ns)
theorem TpA.bls : ∀ {vs : List V} (ns : List Bool), TpA K H vs (ns.map Dt.bl) → vs = ns.map V.bl
  | _, [], h => by cases h; rfl
  | _, n :: ns, h => by
    cases h with
    | cons r t =>
      cases r
      rw [TpA.bls ns t]
      rfl
theorem TpA.strs : ∀ {vs : List V} (ns : List Str), TpA K H vs (ns.map Dt.str) → vs = ns.map V.str
  | _, [], h => by cases h; rfl
  | _, n :: ns, h => by
    cases h with
    | cons r t =>
      cases r
      rw [TpA.strs ns t]
      rfl
end
/-- own objects -/
inductive Ob where
  | lst (ds : List Dt)
  | ins (C dx : Addr) (fs : List (Str × Dt))
  | raw (o : HO)
inductive FsR (K : Fg) (H : Hp) : List (Str × V) → List (Str × Dt) → Prop
  | nil : FsR K H [] []
  | cons {f : Str} {v : V} {d : Dt} {gs : List (Str × V)} {fs : List (Str × Dt)} : Tp K H v d → FsR K H gs fs → FsR K H ((f, v) :: gs) ((f, d) :: fs)
theorem FsR.keep {K : Fg} {H H' : Hp} (e : Keep H H') : ∀ {gs : List (Str × V)} {fs : List (Str × Dt)}, FsR K H gs fs → FsR K H' gs fs
  | _, _, .nil => .nil
  | _, _, .cons r t => .cons (r.keep e) (FsR.keep e t)
theorem FsR.look {K : Fg} {H : Hp} {f : Str} : ∀ {gs : List (Str × V)} {fs : List (Str × Dt)} {d : Dt}, FsR K H gs fs → fs.lookup f = some d → ∃ v, gs.lookup f = some v ∧ Tp K H v d
  | _, _, _, .nil, e => by cases e
  | _, _, d, .cons (f := g) r t, e => by
    by_cases h : (f == g) = true
    · rw [List.lookup_cons, h] at e
      cases e
      exact ⟨_, by rw [List.lookup_cons, h], r⟩
    · have h' : (f == g) = false := by simpa using h
      rw [List.lookup_cons, h'] at e
      obtain ⟨v, h1, h2⟩ := FsR.look t e
      exact ⟨v, by rw [List.lookup_cons, h']; exact h1, h2⟩
theorem FsR.len {K : Fg} {H : Hp} : ∀ {gs : List (Str × V)} {fs : List (Str × Dt)}, FsR K H gs fs → gs.length = fs.length
  | _, _, .nil => rfl
  | _, _, .cons _ t => congrArg (· + 1) (FsR.len t)
theorem FsR.none {K : Fg} {H : Hp} {f : Str} : ∀ {gs : List (Str × V)} {fs : List (Str × Dt)}, FsR K H gs fs → fs.lookup f = none → gs.lookup f = none
  | _, _, .nil, _ => rfl
  | _, _, .cons (f := g) r t, e => by
    by_cases h : (f == g) = true
    · rw [List.lookup_cons, h] at e
      cases e
    · have h' : (f == g) = false := by simpa using h
      rw [List.lookup_cons, h'] at e
      rw [List.lookup_cons, h']
      exact FsR.none t e
/-- a field stored -/
def putD (f : Str) (d : Dt) : List (Str × Dt) → List (Str × Dt)
  | [] => [(f, d)]
  | (g, u) :: r => if g = f then (g, d) :: r else (g, u) :: putD f d r
def ObR (K : Fg) (H : Hp) (a : Addr) : Ob → Prop
  | .lst ds => ∃ vs, H a = some (.lst vs) ∧ TpA K H vs ds
  | .ins C dx fs => ∃ gs, H a = some (.ins C dx gs) ∧ FsR K H gs fs
  | .raw o => H a = some o ∧ Mut (some o)
theorem ObR.same {K : Fg} {H H' : Hp} (e : Same H H') {a : Addr} : ∀ {o : Ob}, ObR K H a o → ObR K H' a o
  | .lst _, ⟨vs, h, t⟩ => ⟨vs, e _ _ h, t.same e⟩
  | .ins _ _ _, ⟨gs, h, t⟩ => ⟨gs, e _ _ h, t.keep (.of e)⟩
  | .raw _, ⟨h, m⟩ => ⟨e _ _ h, m⟩
theorem ObR.some {K : Fg} {H : Hp} {a : Addr} : ∀ {o : Ob}, ObR K H a o → H a ≠ none
  | .lst _, ⟨_, h, _⟩ => by rw [h]; exact fun z => nomatch z
  | .ins _ _ _, ⟨_, h, _⟩ => by rw [h]; exact fun z => nomatch z
  | .raw _, ⟨h, _⟩ => by rw [h]; exact fun z => nomatch z
theorem ObR.mut {K : Fg} {H : Hp} {a : Addr} : ∀ {o : Ob}, ObR K H a o → Mut (H a)
  | .lst _, ⟨_, h, _⟩ => by rw [h]; trivial
  | .ins _ _ _, ⟨_, h, _⟩ => by rw [h]; trivial
  | .raw _, ⟨h, m⟩ => by rw [h]; exact m
theorem ObR.other {K : Fg} {H : Hp} {a b : Addr} {u : HO} (n : a ≠ b) (k : Keep H (upd H b u)) : ∀ {o : Ob}, ObR K H a o → ObR K (upd H b u) a o
  | .lst _, ⟨vs, h, t⟩ => ⟨vs, (upd_ne n).trans h, t.keep k⟩
  | .ins _ _ _, ⟨gs, h, t⟩ => ⟨gs, (upd_ne n).trans h, t.keep k⟩
  | .raw _, ⟨h, m⟩ => ⟨(upd_ne n).trans h, m⟩
abbrev Own := List (Addr × Ob)
abbrev Sl := List (Option Dt)
/-- what is known where one stands: B the ground (others' objects, never changed here), O own objects, L the slots -/
structure Sat (K : Fg) (B : Hp) (O : Own) (L : Sl) (σ : L2.St) (H : Hp) : Prop where
  ex : Same B H
  own : ∀ p ∈ O, B p.1 = none ∧ ObR K H p.1 p.2
  nd : (O.map Prod.fst).Nodup
  len : σ.length = L.length
  loc : ∀ (i : Nat) (d : Dt), L[i]? = some (some d) → ∃ v, σ[i]? = some (some v) ∧ Tp K H v d
section
variable {K : Fg} {B : Hp} {O : Own} {L : Sl} {σ : L2.St} {H H' : Hp}
theorem Sat.same (e : Same H H') (s : Sat K B O L σ H) : Sat K B O L σ H' :=
  ⟨s.ex.trans e, fun p hp => ⟨(s.own p hp).1, (s.own p hp).2.same e⟩, s.nd, s.len, fun i d h => let ⟨v, h1, h2⟩ := s.loc i d h; ⟨v, h1, h2.same e⟩⟩
theorem Sat.set {i : Nat} {v : V} {d : Dt} (s : Sat K B O L σ H) (h : Tp K H v d) : Sat K B O (L.set i (some d)) (σ.set i (some v)) H := by
  refine ⟨s.ex, s.own, s.nd, by simp [s.len], fun j e hj => ?_⟩
  by_cases hji : i = j
  · subst hji
    by_cases hl : i < L.length
    · rw [List.getElem?_set_self hl] at hj
      cases hj
      exact ⟨v, List.getElem?_set_self (by rw [s.len]; exact hl), h⟩
    · rw [List.getElem?_eq_none (by simpa using hl)] at hj
      cases hj
  · rw [List.getElem?_set_ne hji] at hj ⊢
    exact s.loc j e hj
/-- forgetting slots -/
theorem Sat.weak {L' : Sl} (s : Sat K B O L σ H) (hl : L'.length = L.length) (h : ∀ (i : Nat) (d : Dt), L'[i]? = some (some d) → L[i]? = some (some d)) : Sat K B O L' σ H :=
  ⟨s.ex, s.own, s.nd, s.len.trans hl.symm, fun i d e => s.loc i d (h i d e)⟩
theorem Sat.addOwn {p : Addr} {ob : Ob} (s : Sat K B O L σ H) (e : Same H H') (n : H p = none) (r : ObR K H' p ob) : Sat K B (O ++ [(p, ob)]) L σ H' := by
  have s' := s.same e
  refine ⟨s'.ex, fun q hq => ?_, ?_, s'.len, s'.loc⟩
  · rcases List.mem_append.mp hq with hq | hq
    · exact s'.own q hq
    · have : q = (p, ob) := by simpa using hq
      subst this
      refine ⟨?_, r⟩
      cases hb : B p with
      | none => rfl
      | some o =>
        have := s.ex _ _ hb
        rw [n] at this
        cases this
  · rw [List.map_append, List.nodup_append]
    refine ⟨s.nd, by simp, fun a ha b hb => ?_⟩
    have hb' : b = p := by simpa using hb
    subst hb'
    rintro rfl
    obtain ⟨q, hq, rfl⟩ := List.mem_map.mp ha
    exact (s.own q hq).2.some n
theorem Sat.at (s : Sat K B O L σ H) {j : Nat} {a : Addr} {ob : Ob} (h : O[j]? = some (a, ob)) : B a = none ∧ ObR K H a ob := s.own _ (List.mem_of_getElem? h)
theorem Sat.mut {j : Nat} {a : Addr} {ob ob' : Ob} {u : HO} (s : Sat K B O L σ H) (h : O[j]? = some (a, ob)) (m : Mut (H a)) (r : ObR K (upd H a u) a ob') : Sat K B (O.set j (a, ob')) L σ (upd H a u) := by
  have k : Keep H (upd H a u) := .mut m
  have hj : j < O.length := (List.getElem?_eq_some_iff.mp h).1
  have hj' : O[j] = (a, ob) := (List.getElem?_eq_some_iff.mp h).2
  have em : (O.set j (a, ob')).map Prod.fst = O.map Prod.fst := by
    rw [List.map_set]
    refine List.ext_getElem? fun i => ?_
    by_cases hi : j = i
    · subst hi
      rw [List.getElem?_set_self (by simpa using hj), List.getElem?_map, h]
      rfl
    · rw [List.getElem?_set_ne hi]
  refine ⟨fun b o e => ?_, fun q hq => ?_, ?_, s.len, fun i d e => let ⟨v, h1, h2⟩ := s.loc i d e; ⟨v, h1, h2.keep k⟩⟩
  · have hb : b ≠ a := by
      rintro rfl
      rw [(s.at h).1] at e
      cases e
    rw [upd_ne hb]
    exact s.ex _ _ e
  · obtain ⟨i, hi⟩ := List.mem_iff_getElem?.mp hq
    by_cases hij : j = i
    · subst hij
      rw [List.getElem?_set_self hj] at hi
      cases hi
      exact ⟨(s.at h).1, r⟩
    · rw [List.getElem?_set_ne hij] at hi
      have hq' := s.own q (List.mem_of_getElem? hi)
      refine ⟨hq'.1, hq'.2.other ?_ k⟩
      intro z
      have h1 : (O.map Prod.fst)[i]? = some q.1 := by rw [List.getElem?_map, hi]; rfl
      have h2 : (O.map Prod.fst)[j]? = some a := by rw [List.getElem?_map, h]; rfl
      rw [z] at h1
      obtain ⟨l1, e1⟩ := List.getElem?_eq_some_iff.mp h1
      obtain ⟨l2, e2⟩ := List.getElem?_eq_some_iff.mp h2
      exact hij ((List.getElem_inj s.nd).mp (e2.trans e1.symm))
  · rw [em]
    exact s.nd
end

/-! ### what an expression gives -/
/-- without the lists: what is known of made things is known there, too -/
def noLst (H : Hp) : Hp := fun b => match H b with
  | some (.lst _) => none
  | o => o
/-- a word of a made thing that stays -/
structure Mono where
  p : Hp → Addr → Prop
  up : ∀ H H' a, Same H H' → p H a → p H' a
  nl : ∀ H a, p H a → p (noLst H) a
inductive Rs where
  | dat (d : Dt)
  | new (ob : Ob)
  | obj (φ : Mono)
  | two (o1 o2 : Ob)
def RsR (K : Fg) (H H2 : Hp) (v : V) : Rs → Prop
  | .dat d => Tp K H2 v d
  | .new ob => ∃ p, v = .ref p ∧ H p = none ∧ ObR K H2 p ob
  | .obj φ => ∃ a, v = .ref a ∧ φ.p H2 a
  | .two o1 o2 => ∃ p q, Tp K H2 v (.tup [.adr p, .adr q]) ∧ H p = none ∧ H q = none ∧ p ≠ q ∧ ObR K H2 p o1 ∧ ObR K H2 q o2
theorem RsR.same {K : Fg} {H H2 H3 : Hp} {v : V} (e : Same H2 H3) : ∀ {r : Rs}, RsR K H H2 v r → RsR K H H3 v r
  | .dat _, h => Tp.same e h
  | .new _, ⟨p, h1, h2, h3⟩ => ⟨p, h1, h2, h3.same e⟩
  | .obj φ, ⟨a, h1, h2⟩ => ⟨a, h1, φ.up _ _ _ e h2⟩
  | .two _ _, ⟨p, q, h0, h1, h2, h3, h4, h5⟩ => ⟨p, q, h0.same e, h1, h2, h3, h4.same e, h5.same e⟩
theorem RsR.back {K : Fg} {H0 H H2 : Hp} {v : V} (e : Same H0 H) : ∀ {r : Rs}, RsR K H H2 v r → RsR K H0 H2 v r
  | .dat _, h => h
  | .new _, ⟨p, h1, h2, h3⟩ => ⟨p, h1, e.free h2, h3⟩
  | .obj _, h => h
  | .two _ _, ⟨p, q, h0, h1, h2, h3, h4, h5⟩ => ⟨p, q, h0, e.free h1, e.free h2, h3, h4, h5⟩
inductive RsA (K : Fg) (H H2 : Hp) : List V → List Rs → Prop
  | nil : RsA K H H2 [] []
  | cons {v : V} {vs : List V} {r : Rs} {rs : List Rs} : RsR K H H2 v r → RsA K H H2 vs rs → RsA K H H2 (v :: vs) (r :: rs)
theorem RsA.same {K : Fg} {H H2 H3 : Hp} (e : Same H2 H3) : ∀ {vs : List V} {rs : List Rs}, RsA K H H2 vs rs → RsA K H H3 vs rs
  | _, _, .nil => .nil
  | _, _, .cons r t => .cons (r.same e) (RsA.same e t)
theorem RsA.back {K : Fg} {H0 H H2 : Hp} (e : Same H0 H) : ∀ {vs : List V} {rs : List Rs}, RsA K H H2 vs rs → RsA K H0 H2 vs rs
  | _, _, .nil => .nil
  | _, _, .cons r t => .cons (r.back e) (RsA.back e t)
/-- all are data: the values of a display -/
theorem RsA.dats {K : Fg} {H H2 : Hp} : ∀ {vs : List V} (ds : List Dt), RsA K H H2 vs (ds.map .dat) → TpA K H2 vs ds
  | _, [], h => by cases h; exact .nil
  | _, d :: ds, h => by
    cases h with
    | cons r t => exact .cons r (RsA.dats ds t)
def Ev (K : Fg) (B : Hp) (O : Own) (L : Sl) (te : TE) (r : Rs) : Prop := ∀ σ H, Sat K B O L σ H → ∀ Q : VK, (∀ v H2, Same H H2 → RsR K H H2 v r → Q v H2) → te σ H Q
def EvT (K : Fg) (B : Hp) (O : Own) (L : Sl) (tt : TT) (b : Bool) : Prop := ∀ σ H, Sat K B O L σ H → ∀ Q : Bool → Hp → Prop, (∀ H2, Same H H2 → Q b H2) → tt σ H Q
def EvA (K : Fg) (B : Hp) (O : Own) (L : Sl) (ta : TA) (rs : List Rs) : Prop := ∀ σ H, Sat K B O L σ H → ∀ Q : List V → Hp → Prop, (∀ vs H2, Same H H2 → RsA K H H2 vs rs → Q vs H2) → ta σ H Q
/-- v is a list of ds, to be read -/
def LsR (K : Fg) (H : Hp) (v : V) (ds : List Dt) : Prop := ∃ a vs, v = .ref a ∧ SqL K H a vs ∧ TpA K H vs ds
theorem LsR.same {K : Fg} {H H' : Hp} {v : V} {ds : List Dt} (e : Same H H') : LsR K H v ds → LsR K H' v ds := fun ⟨a, vs, h1, h2, h3⟩ => ⟨a, vs, h1, e.seq h2, h3.same e⟩
/-- the result is a list of ds -/
def Ls (K : Fg) (B : Hp) (O : Own) (r : Rs) (ds : List Dt) : Prop := ∀ L σ H H2 v, Sat K B O L σ H → Same H H2 → RsR K H H2 v r → LsR K H2 v ds
section
variable {K : Fg} {B : Hp} {O : Own} {L : Sl} {ta tb te tx : TE} {t u : TT}
theorem Ls.new {ds : List Dt} : Ls K B O (.new (.lst ds)) ds := fun _ _ _ _ _ _ _ ⟨p, h1, _, vs, h3, h4⟩ => ⟨p, vs, h1, .of h3, h4⟩
theorem Ls.own {j : Nat} {a : Addr} {ds : List Dt} (h : O[j]? = some (a, .lst ds)) : Ls K B O (.dat (.adr a)) ds := fun _ _ _ _ _ s e r => by
  obtain ⟨vs, h1, h2⟩ := ((s.same e).at h).2
  cases r
  exact ⟨a, vs, rfl, .of h1, h2⟩
theorem Ls.base {a : Addr} {ds : List Dt} (h : LsR K B (.ref a) ds) : Ls K B O (.dat (.adr a)) ds := fun _ _ _ _ _ s e r => by
  cases r
  exact (h.same s.ex).same e
theorem Ev.is {r r' : Rs} (h : Ev K B O L te r) (e : r = r') : Ev K B O L te r' := e ▸ h
theorem Ev.isD {d d' : Dt} (h : Ev K B O L te (.dat d)) (e : d = d') : Ev K B O L te (.dat d') := e ▸ h
theorem EvT.is {b b' : Bool} (h : EvT K B O L t b) (e : b = b') : EvT K B O L t b' := e ▸ h
theorem ev_var {i : Nat} {d : Dt} (h : L[i]? = some (some d)) : Ev K B O L (tVar i) (.dat d) := fun σ H s Q q =>
  let ⟨v, h1, h2⟩ := s.loc i d h
  ⟨v, h1, q v H (.refl H) h2⟩
theorem ev_int {i : Int} : Ev K B O L (tC (.int i)) (.dat (.int i)) := fun σ H s Q q => q _ H (.refl H) (.int i)
theorem ev_bl {b : Bool} : Ev K B O L (tC (.bl b)) (.dat (.bl b)) := fun σ H s Q q => q _ H (.refl H) (.bl b)
theorem ev_str {x : Str} : Ev K B O L (tC (.str x)) (.dat (.str x)) := fun σ H s Q q => q _ H (.refl H) (.str x)
theorem ev_non : Ev K B O L (tC .non) (.dat .non) := fun σ H s Q q => q _ H (.refl H) .non
theorem ev_adr {a : Addr} : Ev K B O L (tC (.ref a)) (.dat (.adr a)) := fun σ H s Q q => q _ H (.refl H) (.adr a)
/-- a tuple that the top has written -/
theorem ev_globT {a : Addr} {ds : List Dt} (h : ∀ H, Tp K H (.ref a) (.tup ds)) : Ev K B O L (tC (.ref a)) (.dat (.tup ds)) := fun σ H s Q q => q _ H (.refl H) (h H)
/-- a two-place operation upon two data -/
theorem ev_op {r : R2} {d e : Dt} {z : Rs} (ha : Ev K B O L ta (.dat d)) (hb : Ev K B O L tb (.dat e))
    (hr : ∀ σ H, Sat K B O L σ H → ∀ x y, Tp K H x d → Tp K H y e → ∀ Q : VK, (∀ v H2, Same H H2 → RsR K H H2 v z → Q v H2) → r x y H Q) : Ev K B O L (tOp r ta tb) z := fun σ H s Q q =>
  ha σ H s _ fun x H1 e1 r1 => hb σ H1 (s.same e1) _ fun y H2 e2 r2 => hr σ H2 ((s.same e1).same e2) x y (Tp.same e2 r1) r2 Q fun v H3 e3 r3 => q v H3 ((e1.trans e2).trans e3) (r3.back (e1.trans e2))
theorem ev_rI {C : Int → Int → Prop} {g : Int → Int → V} {i j : Int} {d : Dt} (ha : Ev K B O L ta (.dat (.int i))) (hb : Ev K B O L tb (.dat (.int j))) (hc : C i j) (hg : ∀ H, Tp K H (g i j) d) : Ev K B O L (tOp (rI C g) ta tb) (.dat d) :=
  ev_op ha hb fun σ H s x y hx hy Q q => by
    cases hx
    cases hy
    exact ⟨i, j, rfl, rfl, hc, q _ H (.refl H) (hg H)⟩
theorem ev_rI0 {g : Int → Int → V} {i j : Int} {d : Dt} (ha : Ev K B O L ta (.dat (.int i))) (hb : Ev K B O L tb (.dat (.int j))) (hg : ∀ H, Tp K H (g i j) d) : Ev K B O L (tOp (rI0 g) ta tb) (.dat d) :=
  ev_op ha hb fun σ H s x y hx hy Q q => by
    cases hx
    cases hy
    exact ⟨i, j, rfl, rfl, q _ H (.refl H) (hg H)⟩
theorem ev_un {r : V → Hp → VK → Prop} {d : Dt} {z : Rs} (ha : Ev K B O L ta (.dat d))
    (hr : ∀ σ H, Sat K B O L σ H → ∀ x, Tp K H x d → ∀ Q : VK, (∀ v H2, Same H H2 → RsR K H H2 v z → Q v H2) → r x H Q) : Ev K B O L (tUn r ta) z := fun σ H s Q q =>
  ha σ H s _ fun x H1 e1 r1 => hr σ H1 (s.same e1) x r1 Q fun v H3 e3 r3 => q v H3 (e1.trans e3) (r3.back e1)
theorem ev_neg {i : Int} (ha : Ev K B O L ta (.dat (.int i))) : Ev K B O L (tUn (rU fun i => .int (-i)) ta) (.dat (.int (-i))) :=
  ev_un ha fun σ H s x hx Q q => by
    cases hx
    exact ⟨i, rfl, q _ H (.refl H) (.int _)⟩
/-! ### arguments, displays -/
theorem ea_nil : EvA K B O L tNil [] := fun σ H s Q q => q [] H (.refl H) .nil
theorem ea_cons {tr : TA} {r : Rs} {rs : List Rs} (h : Ev K B O L ta r) (hr : EvA K B O L tr rs) : EvA K B O L (tCons ta tr) (r :: rs) := fun σ H s Q q =>
  h σ H s _ fun v H1 e1 r1 => hr σ H1 (s.same e1) _ fun vs H2 e2 r2 => q _ H2 (e1.trans e2) (.cons (r1.same e2) (r2.back e1))
/-- data in a row -/
def EvD (K : Fg) (B : Hp) (O : Own) (L : Sl) (ta : TA) (ds : List Dt) : Prop := EvA K B O L ta (ds.map .dat)
theorem ed_nil : EvD K B O L tNil [] := ea_nil
theorem ed_cons {tr : TA} {d : Dt} {ds : List Dt} (h : Ev K B O L ta (.dat d)) (hr : EvD K B O L tr ds) : EvD K B O L (tCons ta tr) (d :: ds) := ea_cons h hr
theorem ev_tup {ta : TA} {ds : List Dt} (h : EvD K B O L ta ds) (hl : Nat.ble ds.length 100000 = true := by rfl) : Ev K B O L (tTup ta) (.dat (.tup ds)) := fun σ H s Q q =>
  h σ H s _ fun vs H1 e1 r1 => by
    have r2 := r1.dats
    refine ⟨by have := Nat.le_of_ble_eq_true hl; rw [r2.length, sizeLine_eq]; omega, fun p hp => q _ _ (e1.trans (Same.new hp)) (.tup (.of upd_same) (r2.same (Same.new hp)))⟩
theorem ev_lst {ta : TA} {ds : List Dt} (h : EvD K B O L ta ds) (hl : Nat.ble ds.length 100000 = true := by rfl) : Ev K B O L (tLst ta) (.new (.lst ds)) := fun σ H s Q q =>
  h σ H s _ fun vs H1 e1 r1 => by
    have r2 := r1.dats
    refine ⟨by have := Nat.le_of_ble_eq_true hl; rw [r2.length, sizeLine_eq]; omega, fun p hp => q _ _ (e1.trans (Same.new hp)) ⟨p, rfl, e1.free hp, vs, upd_same, r2.same (Same.new hp)⟩⟩
/-! ### tests -/
theorem et_test {b : Bool} (h : Ev K B O L te (.dat (.bl b))) : EvT K B O L (tTest te) b := fun σ H s Q q => h σ H s _ fun v H2 e r => by
  cases r
  exact ⟨b, rfl, q H2 e⟩
theorem et_B {b : Bool} (h : Ev K B O L te (.dat (.bl b))) : EvT K B O L (tB te) b := et_test h
theorem et_and {a b : Bool} (h1 : EvT K B O L t a) (h2 : a = true → EvT K B O L u b) : EvT K B O L (tAnd t u) (a && b) := fun σ H s Q q => h1 σ H s _ fun H2 e2 => by
  cases a with
  | true =>
    show u σ H2 Q
    exact h2 rfl σ H2 (s.same e2) Q fun H3 e3 => q H3 (e2.trans e3)
  | false =>
    show Q false H2
    exact q H2 e2
theorem et_or {a b : Bool} (h1 : EvT K B O L t a) (h2 : a = false → EvT K B O L u b) : EvT K B O L (tOr t u) (a || b) := fun σ H s Q q => h1 σ H s _ fun H2 e2 => by
  cases a with
  | true =>
    show Q true H2
    exact q H2 e2
  | false =>
    show u σ H2 Q
    exact h2 rfl σ H2 (s.same e2) Q fun H3 e3 => q H3 (e2.trans e3)
theorem et_not {a : Bool} (h1 : EvT K B O L t a) : EvT K B O L (tNot t) (!a) := fun σ H s Q q => h1 σ H s _ fun H2 e2 => q H2 e2
theorem ev_andV {a b : Bool} (h1 : Ev K B O L ta (.dat (.bl a))) (h2 : a = true → Ev K B O L tb (.dat (.bl b))) : Ev K B O L (tAndV ta tb) (.dat (.bl (a && b))) := fun σ H s Q q => h1 σ H s _ fun v H2 e2 r => by
  cases r
  refine ⟨a, rfl, ?_⟩
  cases a with
  | true =>
    show tb σ H2 Q
    exact h2 rfl σ H2 (s.same e2) Q fun v H3 e3 r3 => q v H3 (e2.trans e3) (r3.back e2)
  | false =>
    show Q (.bl false) H2
    exact q _ H2 e2 (.bl false)
theorem ev_orV {a b : Bool} (h1 : Ev K B O L ta (.dat (.bl a))) (h2 : a = false → Ev K B O L tb (.dat (.bl b))) : Ev K B O L (tOrV ta tb) (.dat (.bl (a || b))) := fun σ H s Q q => h1 σ H s _ fun v H2 e2 r => by
  cases r
  refine ⟨a, rfl, ?_⟩
  cases a with
  | true =>
    show Q (.bl true) H2
    exact q _ H2 e2 (.bl true)
  | false =>
    show tb σ H2 Q
    exact h2 rfl σ H2 (s.same e2) Q fun v H3 e3 r3 => q v H3 (e2.trans e3) (r3.back e2)
theorem ev_notV {a : Bool} (h1 : Ev K B O L ta (.dat (.bl a))) : Ev K B O L (tNotV ta) (.dat (.bl (!a))) := fun σ H s Q q => h1 σ H s _ fun v H2 e2 r => by
  cases r
  exact ⟨a, rfl, q _ H2 e2 (.bl _)⟩
/-! ### comparing scalars -/
theorem ev_eqI {i j : Int} (ha : Ev K B O L ta (.dat (.int i))) (hb : Ev K B O L tb (.dat (.int j))) : Ev K B O L (tOp rEq ta tb) (.dat (.bl (decide (i = j)))) :=
  ev_op ha hb fun σ H s x y hx hy Q q => by
    cases hx
    cases hy
    refine ⟨rfl, q _ H (.refl H) ?_⟩
    have e : decide (V.int i = V.int j) = decide (i = j) := by
      by_cases h : i = j
      · rw [decide_eq_true h, decide_eq_true (by rw [h])]
      · rw [decide_eq_false h, decide_eq_false (fun z => h (V.int.inj z))]
    rw [e]
    exact .bl _
theorem ev_neI {i j : Int} (ha : Ev K B O L ta (.dat (.int i))) (hb : Ev K B O L tb (.dat (.int j))) : Ev K B O L (tOp rNe ta tb) (.dat (.bl (!decide (i = j)))) :=
  ev_op ha hb fun σ H s x y hx hy Q q => by
    cases hx
    cases hy
    refine ⟨rfl, q _ H (.refl H) ?_⟩
    have e : decide (V.int i = V.int j) = decide (i = j) := by
      by_cases h : i = j
      · rw [decide_eq_true h, decide_eq_true (by rw [h])]
      · rw [decide_eq_false h, decide_eq_false (fun z => h (V.int.inj z))]
    rw [e]
    exact .bl _
theorem ev_eqS {i j : Str} (ha : Ev K B O L ta (.dat (.str i))) (hb : Ev K B O L tb (.dat (.str j))) : Ev K B O L (tOp rEq ta tb) (.dat (.bl (decide (i = j)))) :=
  ev_op ha hb fun σ H s x y hx hy Q q => by
    cases hx
    cases hy
    refine ⟨rfl, q _ H (.refl H) ?_⟩
    have e : decide (V.str i = V.str j) = decide (i = j) := by
      by_cases h : i = j
      · rw [decide_eq_true h, decide_eq_true (by rw [h])]
      · rw [decide_eq_false h, decide_eq_false (fun z => h (V.str.inj z))]
    rw [e]
    exact .bl _
theorem ev_neS {i j : Str} (ha : Ev K B O L ta (.dat (.str i))) (hb : Ev K B O L tb (.dat (.str j))) : Ev K B O L (tOp rNe ta tb) (.dat (.bl (!decide (i = j)))) :=
  ev_op ha hb fun σ H s x y hx hy Q q => by
    cases hx
    cases hy
    refine ⟨rfl, q _ H (.refl H) ?_⟩
    have e : decide (V.str i = V.str j) = decide (i = j) := by
      by_cases h : i = j
      · rw [decide_eq_true h, decide_eq_true (by rw [h])]
      · rw [decide_eq_false h, decide_eq_false (fun z => h (V.str.inj z))]
    rw [e]
    exact .bl _
theorem ev_eqB {i j : Bool} (ha : Ev K B O L ta (.dat (.bl i))) (hb : Ev K B O L tb (.dat (.bl j))) : Ev K B O L (tOp rEq ta tb) (.dat (.bl (i == j))) :=
  ev_op ha hb fun σ H s x y hx hy Q q => by
    cases hx
    cases hy
    refine ⟨rfl, q _ H (.refl H) ?_⟩
    have e : decide (V.bl i = V.bl j) = (i == j) := by
      cases i <;> cases j <;> rfl
    rw [e]
    exact .bl _
theorem ev_neB {i j : Bool} (ha : Ev K B O L ta (.dat (.bl i))) (hb : Ev K B O L tb (.dat (.bl j))) : Ev K B O L (tOp rNe ta tb) (.dat (.bl (!(i == j)))) :=
  ev_op ha hb fun σ H s x y hx hy Q q => by
    cases hx
    cases hy
    refine ⟨rfl, q _ H (.refl H) ?_⟩
    have e : decide (V.bl i = V.bl j) = (i == j) := by
      cases i <;> cases j <;> rfl
    rw [e]
    exact .bl _
/-! ### subscripts, len -/
theorem ev_ixT {ds : List Dt} {i : Int} {d : Dt} (ha : Ev K B O L ta (.dat (.tup ds))) (hb : Ev K B O L tb (.dat (.int i))) (h : atI ds i = some d) : Ev K B O L (tOp (rIxT K) ta tb) (.dat d) :=
  ev_op ha hb fun σ H s x y hx hy Q q => by
    cases hy
    cases hx with
    | tup ht hd =>
      rename_i a xs
      have h2 : ∃ v, atI xs i = some v ∧ Tp K H v d := by
        unfold atI at h ⊢
        rw [hd.length]
        cases e : ixN ds.length i with
        | none => rw [e] at h; cases h
        | some j =>
          rw [e] at h
          exact hd.get h
      obtain ⟨v, h3, h4⟩ := h2
      exact ⟨a, xs, i, v, rfl, rfl, ht, h3, q _ H (.refl H) h4⟩
theorem ev_ixL {ds : List Dt} {i : Int} {d : Dt} {r : Rs} (ha : Ev K B O L ta r) (hl : Ls K B O r ds) (hb : Ev K B O L tb (.dat (.int i))) (h : atI ds i = some d) : Ev K B O L (tOp (rIxL K) ta tb) (.dat d) := fun σ H s Q q =>
  ha σ H s _ fun x H1 e1 r1 => hb σ H1 (s.same e1) _ fun y H2 e2 r2 => by
    cases r2
    obtain ⟨a, vs, rfl, h2, h3⟩ := (hl L σ H H1 x s e1 r1).same e2
    have h4 : ∃ v, atI vs i = some v ∧ Tp K H2 v d := by
      unfold atI at h ⊢
      rw [h3.length]
      cases e : ixN ds.length i with
      | none => rw [e] at h; cases h
      | some j =>
        rw [e] at h
        exact h3.get h
    obtain ⟨v, h5, h6⟩ := h4
    exact ⟨a, vs, i, v, rfl, rfl, h2, h5, q _ H2 (e1.trans e2) h6⟩
end
end GT
namespace GT
open PySem L2
/-! ### statements -/
/-- P holds wherever what is known holds -/
def Nx (K : Fg) (B : Hp) (O : Own) (L : Sl) (P : L2.St → Hp → Prop) : Prop := ∀ σ H, Sat K B O L σ H → P σ H
/-- what is handed back is taken -/
def Rt (K : Fg) (B : Hp) (R : VK) (r : Rs) : Prop := ∀ v H2, Same B H2 → RsR K B H2 v r → R v H2
section
variable {K : Fg} {B : Hp} {O : Own} {L : Sl} {te ta tb tx : TE} {t : TT} {D : Ends} {tu tw : TS} {g : TG}
theorem s_seq (h : Nx K B O L (tu { D with nx := tw D })) : Nx K B O L (tSeq tu tw D) := h
theorem s_end (h : Nx K B O L D.nx) : Nx K B O L (tNext D) := h
theorem s_brk (h : Nx K B O L D.bk) : Nx K B O L (tBreak D) := h
theorem s_cont (h : Nx K B O L D.ct) : Nx K B O L (tCont D) := h
theorem s_asg {i : Nat} {d : Dt} (h : Ev K B O L te (.dat d)) (k : Nx K B O (L.set i (some d)) D.nx) : Nx K B O L (tAsg te (gName i) D) := fun σ H s =>
  h σ H s _ fun v H1 e1 r1 => k _ H1 ((s.same e1).set r1)
theorem s_asgN {i : Nat} {ob : Ob} (h : Ev K B O L te (.new ob)) (k : ∀ p, Nx K B (O ++ [(p, ob)]) (L.set i (some (.adr p))) D.nx) : Nx K B O L (tAsg te (gName i) D) := fun σ H s =>
  h σ H s _ fun v H1 e1 ⟨p, hv, hn, r1⟩ => by
    subst hv
    exact k p _ H1 ((s.addOwn e1 hn r1).set (.adr p))
theorem s_if {b : Bool} (h : EvT K B O L t b) (h1 : b = true → Nx K B O L (tu D)) (h2 : b = false → Nx K B O L (tw D)) : Nx K B O L (tIfS t tu tw D) := fun σ H s =>
  h σ H s _ fun H1 e1 => by
    cases b with
    | true =>
      show tu D σ H1
      exact h1 rfl σ H1 (s.same e1)
    | false =>
      show tw D σ H1
      exact h2 rfl σ H1 (s.same e1)
theorem s_drop {r : Rs} (h : Ev K B O L te r) (k : Nx K B O L D.nx) : Nx K B O L (tDrop te D) := fun σ H s =>
  h σ H s _ fun v H1 e1 _ => k σ H1 (s.same e1)
theorem s_ret {r : Rs} (h : Ev K B O L te r) (k : Rt K B D.rt r) : Nx K B O L (tRet te D) := fun σ H s =>
  h σ H s _ fun v H1 e1 r1 => k v H1 (s.ex.trans e1) (r1.back s.ex)
/-- an own object is handed back -/
theorem s_retO {j : Nat} {a : Addr} {ob : Ob} (h : Ev K B O L te (.dat (.adr a))) (hj : O[j]? = some (a, ob)) (k : Rt K B D.rt (.new ob)) : Nx K B O L (tRet te D) := fun σ H s =>
  h σ H s _ fun v H1 e1 r1 => by
    cases r1
    obtain ⟨h1, h2⟩ := (s.same e1).at hj
    exact k _ H1 (s.ex.trans e1) ⟨a, rfl, h1, h2⟩
theorem s_retN (k : Rt K B D.rt (.dat .non)) : Nx K B O L (tRetN D) := fun σ H s => k _ H s.ex .non
/-- xs.append(e) -/
theorem s_app {j : Nat} {a : Addr} {ds : List Dt} {d : Dt} (ho : Ev K B O L ta (.dat (.adr a))) (hj : O[j]? = some (a, .lst ds)) (h : Ev K B O L te (.dat d)) (hz : ds.length < 100000)
    (k : Nx K B (O.set j (a, .lst (ds ++ [d]))) L D.nx) : Nx K B O L (tDrop (tBM K "list" rAppend ta (tCons te tNil)) D) := fun σ H s =>
  ho σ H s _ fun v H1 e1 r1 => by
    cases r1
    obtain ⟨vs0, h1, _⟩ := ((s.same e1).at hj).2
    refine ⟨Or.inl ⟨rfl, vs0, .of h1⟩, h σ H1 (s.same e1) _ fun w H2 e2 r2 => ?_⟩
    have s2 := (s.same e1).same e2
    obtain ⟨vs, h3, h4⟩ := (s2.at hj).2
    refine ⟨a, vs, w, rfl, rfl, h3, by rw [h4.length, sizeLine_eq]; omega, ?_⟩
    have m : Mut (H2 a) := by rw [h3]; trivial
    exact k σ _ (s2.mut hj m ⟨vs ++ [w], upd_same, (h4.append (.cons r2 .nil)).keep (.mut m)⟩)
/-- xs.append(e), e an own new object -/
theorem s_appN {j : Nat} {a : Addr} {ds : List Dt} {ob : Ob} (ho : Ev K B O L ta (.dat (.adr a))) (hj : O[j]? = some (a, .lst ds)) (h : Ev K B O L te (.new ob)) (hz : ds.length < 100000)
    (k : ∀ p, Nx K B ((O ++ [(p, ob)]).set j (a, .lst (ds ++ [Dt.adr p]))) L D.nx) : Nx K B O L (tDrop (tBM K "list" rAppend ta (tCons te tNil)) D) := fun σ H s =>
  ho σ H s _ fun v H1 e1 r1 => by
    cases r1
    obtain ⟨vs0, h1, _⟩ := ((s.same e1).at hj).2
    refine ⟨Or.inl ⟨rfl, vs0, .of h1⟩, h σ H1 (s.same e1) _ fun w H2 e2 ⟨p, hw, hn, r2⟩ => ?_⟩
    subst hw
    have s2 := (s.same e1).addOwn e2 hn r2
    have hj2 : (O ++ [(p, ob)])[j]? = some (a, .lst ds) := by
      rw [List.getElem?_append_left (List.getElem?_eq_some_iff.mp hj).1]
      exact hj
    obtain ⟨vs, h3, h4⟩ := (s2.at hj2).2
    refine ⟨a, vs, .ref p, rfl, rfl, h3, by rw [h4.length, sizeLine_eq]; omega, ?_⟩
    have m : Mut (H2 a) := by rw [h3]; trivial
    exact k p σ _ (s2.mut hj2 m ⟨vs ++ [.ref p], upd_same, (h4.append (.cons (Tp.adr p) .nil)).keep (.mut m)⟩)
/-- xs.extend(ys), ys new -/
theorem s_ext {j : Nat} {a : Addr} {ds es : List Dt} (ho : Ev K B O L ta (.dat (.adr a))) (hj : O[j]? = some (a, .lst ds)) (h : Ev K B O L te (.new (.lst es))) (hz : ds.length + es.length ≤ 100000)
    (k : Nx K B (O.set j (a, .lst (ds ++ es))) L D.nx) : Nx K B O L (tDrop (tBM K "list" rExtend ta (tCons te tNil)) D) := fun σ H s =>
  ho σ H s _ fun v H1 e1 r1 => by
    cases r1
    obtain ⟨vs0, h1, _⟩ := ((s.same e1).at hj).2
    refine ⟨Or.inl ⟨rfl, vs0, .of h1⟩, h σ H1 (s.same e1) _ fun w H2 e2 ⟨p, hw, hn, ws, hp, r2⟩ => ?_⟩
    subst hw
    have s2 := (s.same e1).same e2
    obtain ⟨vs, h3, h4⟩ := (s2.at hj).2
    refine ⟨a, p, vs, ws, rfl, rfl, h3, hp, by rw [h4.length, r2.length, sizeLine_eq]; omega, ?_⟩
    have m : Mut (H2 a) := by rw [h3]; trivial
    exact k σ _ (s2.mut hj m ⟨vs ++ ws, upd_same, (h4.append r2).keep (.mut m)⟩)
/-- xs.clear() -/
theorem s_clear {j : Nat} {a : Addr} {ds : List Dt} (ho : Ev K B O L ta (.dat (.adr a))) (hj : O[j]? = some (a, .lst ds))
    (k : Nx K B (O.set j (a, .lst [])) L D.nx) : Nx K B O L (tDrop (tBM0 K "list" rClear ta) D) := fun σ H s =>
  ho σ H s _ fun v H1 e1 r1 => by
    cases r1
    have s2 := s.same e1
    obtain ⟨vs, h3, h4⟩ := (s2.at hj).2
    have m : Mut (H1 a) := by rw [h3]; trivial
    exact ⟨Or.inl ⟨rfl, vs, .of h3⟩, a, vs, rfl, rfl, h3, k σ _ (s2.mut hj m ⟨[], upd_same, .nil⟩)⟩
theorem ixN_nat {n j : Nat} (hj : j < n) : ixN n (j : Int) = some j := by
  unfold ixN
  rw [if_pos (by omega), if_pos (by omega)]
  simp
/-- xs[i] = e -/
theorem s_setL {j i : Nat} {k : Int} {a : Addr} {ds : List Dt} {d : Dt} (h : Ev K B O L te (.dat d)) (ho : Ev K B O L ta (.dat (.adr a))) (hj : O[j]? = some (a, .lst ds)) (hi : Ev K B O L tb (.dat (.int k))) (hk : ixN ds.length k = some i)
    (hn : Nx K B (O.set j (a, .lst (ds.set i d))) L D.nx) : Nx K B O L (tAsg te (gSub ta tb rSetL) D) := fun σ H s =>
  h σ H s _ fun v H1 e1 r1 => ho σ H1 (s.same e1) _ fun u H2 e2 r2 => hi σ H2 ((s.same e1).same e2) _ fun w H3 e3 r3 => by
    cases r2
    cases r3
    have s3 := ((s.same e1).same e2).same e3
    obtain ⟨vs, h3, h4⟩ := (s3.at hj).2
    have m : Mut (H3 a) := by rw [h3]; trivial
    exact ⟨a, vs, k, i, rfl, rfl, h3, by rw [h4.length]; exact hk, hn σ _ (s3.mut hj m ⟨vs.set i v, upd_same, (h4.set (Tp.same (e2.trans e3) r1) i).keep (.mut m)⟩)⟩
/-- forgetting slots, at a join -/
theorem nx_weak {L' : Sl} {P : L2.St → Hp → Prop} (h : Nx K B O L' P) (hl : L'.length = L.length) (hw : ∀ (i : Nat) (d : Dt), L'[i]? = some (some d) → L[i]? = some (some d)) : Nx K B O L P := fun σ H s => h σ H (s.weak hl hw)
/-! ### targets -/
def Tg (K : Fg) (B : Hp) (O : Own) (L : Sl) (g : TG) (d : Dt) (L' : Sl) : Prop := ∀ σ H v, Sat K B O L σ H → Tp K H v d → ∀ Q : L2.St → Hp → Prop, (∀ σ', Sat K B O L' σ' H → Q σ' H) → g v σ H Q
theorem tg_name {i : Nat} {d : Dt} : Tg K B O L (gName i) d (L.set i (some d)) := fun σ H v s r Q q => q _ (s.set r)
theorem tg_tup2 {i j : Nat} {d e : Dt} : Tg K B O L (gTup K 2 (gCons (gName i) (gCons (gName j) gNil))) (.tup [d, e]) ((L.set i (some d)).set j (some e)) := fun σ H v s r Q q => by
  cases r with
  | tup ht ha =>
    cases ha with
    | cons r1 t =>
      cases t with
      | cons r2 t2 =>
        cases t2
        exact ⟨_, _, rfl, ht, rfl, _, _, rfl, _, _, rfl, rfl, q _ ((s.set r1).set r2)⟩
/-! ### loops -/
/-- over a list at a, by a word of what has been taken -/
theorem s_forW {α : Type} {enc : α → Dt} {ys : List α} {a : Addr} {tl : TE} (h : Ev K B O L tl (.dat (.adr a))) (W : List α → L2.St → Hp → Prop) (hl : ∀ pre σ H, W pre σ H → LsR K H (.ref a) (ys.map enc))
    (h0 : Nx K B O L (W [])) (hs : ∀ pre y post, ys = pre ++ y :: post → ∀ σ H v, W pre σ H → Tp K H v (enc y) → g v σ H fun σ2 H2 => tu { D with nx := W (pre ++ [y]), ct := W (pre ++ [y]), bk := D.nx } σ2 H2)
    (hd : ∀ σ H, W ys σ H → D.nx σ H) : Nx K B O L (tFor (iList K tl) g tu D) := fun σ H s =>
  h σ H s _ fun v H1 e1 r1 => by
    cases r1
    have w0 := h0 σ H1 (s.same e1)
    refine ⟨a, rfl, ?_, fun i m σ H => m = ys.length - i ∧ i ≤ ys.length ∧ W (ys.take i) σ H, ⟨ys.length, by simp, Nat.zero_le _, w0⟩, ?_⟩
    · obtain ⟨b, vs, hb, h2, _⟩ := hl _ _ _ w0
      cases hb
      exact ⟨vs, h2⟩
    · rintro i m σ H ⟨rfl, hi, w⟩
      obtain ⟨b, vs, hb, h2, h3⟩ := hl _ _ _ w
      cases hb
      by_cases hlt : i < ys.length
      · have hd : (ys.map enc)[i]? = some (enc ys[i]) := by rw [List.getElem?_map, List.getElem?_eq_getElem hlt]; rfl
        obtain ⟨x, hx, rx⟩ := h3.get hd
        have et : ys.take (i + 1) = ys.take i ++ [ys[i]] := by rw [List.take_add_one, List.getElem?_eq_getElem hlt]; rfl
        refine .inr ⟨⟨vs, x, h2, hx⟩, W (ys.take (i + 1)), fun σ' H' p' => ⟨ys.length - (i + 1), by omega, rfl, hlt, p'⟩, fun x' H' y => ?_⟩
        obtain ⟨e, y⟩ := y
        subst e
        have ex : x' = x := Option.some.inj ((y vs h2).symm.trans hx)
        subst ex
        rw [et]
        exact hs (ys.take i) ys[i] (ys.drop (i + 1)) (by rw [← List.drop_eq_getElem_cons hlt, List.take_append_drop]) σ _ x' w rx
      · have e : i = ys.length := by omega
        subst e
        refine .inl ⟨⟨vs, h2, by rw [h3.length]; simp⟩, ?_⟩
        rw [List.take_length] at w
        exact hd σ H w
/-- .. the frame a function of what has been taken -/
theorem s_for {α : Type} {enc : α → Dt} {ys : List α} {a : Addr} {tl : TE} (h : Ev K B O L tl (.dat (.adr a))) (O' : List α → Own) (L1 : List α → α → Sl) (L0 : List α → Sl) (hl : ∀ pre, Ls K B (O' pre) (.dat (.adr a)) (ys.map enc))
    (h0 : Nx K B O L fun σ H => Sat K B (O' []) (L0 []) σ H) (hg : ∀ pre y, Tg K B (O' pre) (L0 pre) g (enc y) (L1 pre y))
    (hs : ∀ pre y post, ys = pre ++ y :: post → Nx K B (O' pre) (L1 pre y) (tu { D with nx := fun σ H => Sat K B (O' (pre ++ [y])) (L0 (pre ++ [y])) σ H, ct := fun σ H => Sat K B (O' (pre ++ [y])) (L0 (pre ++ [y])) σ H, bk := D.nx }))
    (hd : Nx K B (O' ys) (L0 ys) D.nx) : Nx K B O L (tFor (iList K tl) g tu D) :=
  s_forW (enc := enc) h (fun pre σ H => Sat K B (O' pre) (L0 pre) σ H) (fun pre σ H s => hl pre (L0 pre) σ H H _ s (.refl H) (.adr a)) h0
    (fun pre y post e σ H v s r => hg pre y σ H v s r _ fun σ' s' => hs pre y post e σ' H s') hd
/-- over a new list: it is an own object from now on -/
theorem s_forN {ob : Ob} {tl : TE} (h : Ev K B O L tl (.new ob)) (k : ∀ p, Nx K B (O ++ [(p, ob)]) L (tFor (iList K (tC (.ref p))) g tu D)) : Nx K B O L (tFor (iList K tl) g tu D) := fun σ H s =>
  h σ H s _ fun v H1 e1 ⟨p, hv, hn, r1⟩ => by
    subst hv
    exact k p σ H1 (s.addOwn e1 hn r1)
/-- over range(n) -/
theorem s_forR {n : Nat} {ta : TA} {j : Nat} (h : EvD K B O L ta [.int n]) (hn : n ≤ 100000) (W : Nat → L2.St → Hp → Prop) (h0 : Nx K B O L (W 0))
    (hs : ∀ i, i < n → ∀ σ H, W i σ H → tu { D with nx := W (i + 1), ct := W (i + 1), bk := D.nx } (σ.set j (some (.int i))) H)
    (hd : ∀ σ H, W n σ H → D.nx σ H) : Nx K B O L (tFor (iRng1 ta) (gName j) tu D) := fun σ H s =>
  h σ H s _ fun vs H1 e1 r1 => by
    have r2 := r1.dats
    cases r2 with
    | cons r t =>
      cases t
      cases r
      refine ⟨(n : Int), rfl, by omega, by omega, for_range (lo := 0) (n := (n : Int).toNat) W (h0 σ H1 (s.same e1)) (fun i σ' H' hi p => ?_) (by simpa using hd)⟩
      have e0 : (0 : Int) + (i : Int) = (i : Int) := Int.zero_add _
      show tu _ (σ'.set j (some (.int ((0 : Int) + (i : Int))))) H'
      rw [e0]
      exact hs i (by simpa using hi) σ' H' p
/-- .. the frame a function of the turn -/
theorem s_forRA {n : Nat} {ta : TA} {j : Nat} (h : EvD K B O L ta [.int n]) (hn : n ≤ 100000) (O' : Nat → Own) (L0 : Nat → Sl) (h0 : Nx K B O L fun σ H => Sat K B (O' 0) (L0 0) σ H)
    (hs : ∀ i, i < n → Nx K B (O' i) ((L0 i).set j (some (.int i))) (tu { D with nx := fun σ H => Sat K B (O' (i + 1)) (L0 (i + 1)) σ H, ct := fun σ H => Sat K B (O' (i + 1)) (L0 (i + 1)) σ H, bk := D.nx }))
    (hd : Nx K B (O' n) (L0 n) D.nx) : Nx K B O L (tFor (iRng1 ta) (gName j) tu D) :=
  s_forR h hn (fun i σ H => Sat K B (O' i) (L0 i) σ H) h0 (fun i hi σ H s => hs i hi _ H (s.set (.int _))) hd
/-- over range(lo, hi) -/
theorem s_forR2 {lo n : Nat} {hi : Int} {ta : TA} {j : Nat} (h : EvD K B O L ta [.int lo, .int hi]) (hlo : lo ≤ 100000) (hhi : -100000 ≤ hi ∧ hi ≤ 100000) (hn : (hi - lo).toNat = n) (O' : Nat → Own) (L0 : Nat → Sl) (h0 : Nx K B O L fun σ H => Sat K B (O' 0) (L0 0) σ H)
    (hs : ∀ i, i < n → Nx K B (O' i) ((L0 i).set j (some (.int (lo + i : Nat)))) (tu { D with nx := fun σ H => Sat K B (O' (i + 1)) (L0 (i + 1)) σ H, ct := fun σ H => Sat K B (O' (i + 1)) (L0 (i + 1)) σ H, bk := D.nx }))
    (hd : Nx K B (O' n) (L0 n) D.nx) : Nx K B O L (tFor (iRng2 ta) (gName j) tu D) := fun σ H s =>
  h σ H s _ fun vs H1 e1 r1 => by
    have r2 := r1.dats
    cases r2 with
    | cons r t =>
      cases t with
      | cons r' t' =>
        cases t'
        cases r
        cases r'
        subst hn
        refine ⟨(lo : Int), hi, rfl, ⟨by omega, by omega, by omega, by omega⟩, for_range (lo := lo) (n := (hi - lo).toNat) (fun i σ H => Sat K B (O' i) (L0 i) σ H) (h0 σ H1 (s.same e1)) (fun i σ' H' hi p => ?_) hd⟩
        have e0 : (lo : Int) + (i : Int) = ((lo + i : Nat) : Int) := by omega
        show tu _ (σ'.set j (some (.int ((lo : Int) + (i : Int))))) H'
        rw [e0]
        exact hs i hi _ H' (p.set (.int _))
/-- a tuple in the ground -/
def TupAt (K : Fg) (B : Hp) (a : Addr) (ds : List Dt) : Prop := ∃ xs, SqT K B a xs ∧ TpA K B xs ds
theorem TupAt.same {B B' : Hp} {a : Addr} {ds : List Dt} (e : Same B B') : TupAt K B a ds → TupAt K B' a ds := fun ⟨xs, h1, h2⟩ => ⟨xs, keep_t (.of e) h1, h2.same e⟩
/-- the ground may be what stands but the own objects -/
theorem Sat.ground {σ : L2.St} {H : Hp} (s : Sat K B O L σ H) : ∃ B' : Hp, Same B B' ∧ Sat K B' O L σ H ∧ Keep H B' := by
  let B' : Hp := fun b => if b ∈ O.map Prod.fst then none else H b
  have nin : ∀ b o, B b = some o → b ∉ O.map Prod.fst := fun b o e hm => by
    obtain ⟨q, hq, rfl⟩ := List.mem_map.mp hm
    rw [(s.own q hq).1] at e
    cases e
  refine ⟨B', fun b o e => ?_, ⟨fun b o e => ?_, fun p hp => ⟨?_, (s.own p hp).2⟩, s.nd, s.len, s.loc⟩, fun b o e n => ?_⟩
  · show (if b ∈ O.map Prod.fst then none else H b) = some o
    rw [if_neg (nin b o e)]
    exact s.ex b o e
  · have e' : (if b ∈ O.map Prod.fst then none else H b) = some o := e
    by_cases hb : b ∈ O.map Prod.fst
    · rw [if_pos hb] at e'
      cases e'
    · rw [if_neg hb] at e'
      exact e'
  · show (if p.1 ∈ O.map Prod.fst then none else H p.1) = none
    rw [if_pos (List.mem_map.mpr ⟨p, hp, rfl⟩)]
  · show (if b ∈ O.map Prod.fst then none else H b) = some o
    by_cases hb : b ∈ O.map Prod.fst
    · obtain ⟨q, hq, rfl⟩ := List.mem_map.mp hb
      have m := (s.own q hq).2.mut
      rw [e] at m
      exact absurd m n
    · rw [if_neg hb]
      exact e
theorem Rt.ground {B B' : Hp} {R : VK} {r : Rs} (e : Same B B') (h : Rt K B R r) : Rt K B' R r := fun v H2 e2 r2 => h v H2 (e.trans e2) (r2.back e)
/-- over a tuple: it stands in the ground from now on -/
theorem s_forT {ds : List Dt} {tl : TE} (h : Ev K B O L tl (.dat (.tup ds))) (k : ∀ B' a, Same B B' → TupAt K B' a ds → Nx K B' O L (tFor (iTup K (tC (.ref a))) g tu D)) : Nx K B O L (tFor (iTup K tl) g tu D) := fun σ H s =>
  h σ H s _ fun v H1 e1 r1 => by
    cases r1 with
    | tup ht ha =>
      rename_i a xs
      obtain ⟨B', e', s', kp⟩ := (s.same e1).ground
      exact k B' a e' ⟨xs, keep_t kp ht, ha.keep kp⟩ σ H1 s'
theorem s_forTW {α : Type} {enc : α → Dt} {ys : List α} {a : Addr} (h : TupAt K B a (ys.map enc)) (W : List α → L2.St → Hp → Prop) (hb : ∀ pre σ H, W pre σ H → Same B H)
    (h0 : Nx K B O L (W [])) (hs : ∀ pre y post, ys = pre ++ y :: post → ∀ σ H v, W pre σ H → Tp K H v (enc y) → g v σ H fun σ2 H2 => tu { D with nx := W (pre ++ [y]), ct := W (pre ++ [y]), bk := D.nx } σ2 H2)
    (hd : ∀ σ H, W ys σ H → D.nx σ H) : Nx K B O L (tFor (iTup K (tC (.ref a))) g tu D) := fun σ H s => by
  obtain ⟨xs, h2, h3⟩ := h
  have w0 := h0 σ H s
  refine ⟨a, rfl, ⟨xs, keep_t (.of s.ex) h2⟩, fun i m σ H => m = ys.length - i ∧ i ≤ ys.length ∧ W (ys.take i) σ H, ⟨ys.length, by simp, Nat.zero_le _, w0⟩, ?_⟩
  rintro i m σ H ⟨rfl, hi, w⟩
  have e0 := hb _ _ _ w
  have h2' := keep_t (.of e0) h2
  by_cases hlt : i < ys.length
  · have hd : (ys.map enc)[i]? = some (enc ys[i]) := by rw [List.getElem?_map, List.getElem?_eq_getElem hlt]; rfl
    obtain ⟨x, hx, rx⟩ := h3.get hd
    have et : ys.take (i + 1) = ys.take i ++ [ys[i]] := by rw [List.take_add_one, List.getElem?_eq_getElem hlt]; rfl
    refine .inr ⟨⟨xs, x, h2', hx⟩, W (ys.take (i + 1)), fun σ' H' p' => ⟨ys.length - (i + 1), by omega, rfl, hlt, p'⟩, fun x' H' y => ?_⟩
    obtain ⟨e, y⟩ := y
    subst e
    have ex : x' = x := Option.some.inj ((y xs h2').symm.trans hx)
    subst ex
    rw [et]
    exact hs (ys.take i) ys[i] (ys.drop (i + 1)) (by rw [← List.drop_eq_getElem_cons hlt, List.take_append_drop]) σ _ x' w (rx.same e0)
  · have e : i = ys.length := by omega
    subst e
    refine .inl ⟨⟨xs, h2', by rw [h3.length]; simp⟩, ?_⟩
    rw [List.take_length] at w
    exact hd σ H w
theorem s_forTA {α : Type} {enc : α → Dt} {ys : List α} {a : Addr} (h : TupAt K B a (ys.map enc)) (O' : List α → Own) (L1 : List α → α → Sl) (L0 : List α → Sl)
    (h0 : Nx K B O L fun σ H => Sat K B (O' []) (L0 []) σ H) (hg : ∀ pre y, Tg K B (O' pre) (L0 pre) g (enc y) (L1 pre y))
    (hs : ∀ pre y post, ys = pre ++ y :: post → Nx K B (O' pre) (L1 pre y) (tu { D with nx := fun σ H => Sat K B (O' (pre ++ [y])) (L0 (pre ++ [y])) σ H, ct := fun σ H => Sat K B (O' (pre ++ [y])) (L0 (pre ++ [y])) σ H, bk := D.nx }))
    (hd : Nx K B (O' ys) (L0 ys) D.nx) : Nx K B O L (tFor (iTup K (tC (.ref a))) g tu D) :=
  s_forTW (enc := enc) h (fun pre σ H => Sat K B (O' pre) (L0 pre) σ H) (fun pre σ H s => s.ex) h0
    (fun pre y post e σ H v s r => hg pre y σ H v s r _ fun σ' s' => hs pre y post e σ' H s') hd
/-- while: frames told by a state of one's own -/
theorem s_while {β : Type} (S : β) (O' : β → Own) (L0 : β → Sl) (I : β → Prop) (μ : β → Nat) (hi : I S) (h0 : Nx K B O L fun σ H => Sat K B (O' S) (L0 S) σ H)
    (hs : ∀ b, I b → ∃ c, EvT K B (O' b) (L0 b) t c ∧ (c = true → Nx K B (O' b) (L0 b) (tu { D with nx := fun σ H => ∃ b', I b' ∧ μ b' < μ b ∧ Sat K B (O' b') (L0 b') σ H, ct := fun σ H => ∃ b', I b' ∧ μ b' < μ b ∧ Sat K B (O' b') (L0 b') σ H, bk := D.nx })) ∧
      (c = false → Nx K B (O' b) (L0 b) D.nx)) : Nx K B O L (tWhile t tu D) := fun σ H s => by
  refine ⟨fun m σ H => ∃ b, I b ∧ μ b = m ∧ Sat K B (O' b) (L0 b) σ H, ⟨_, S, hi, rfl, h0 σ H s⟩, ?_⟩
  rintro m σ H ⟨b, hb, rfl, s⟩
  obtain ⟨c, hc, h1, h2⟩ := hs b hb
  refine hc σ H s _ fun H1 e1 => ?_
  cases c with
  | true => exact ⟨_, fun σ' H' ⟨b', hb', hm, s'⟩ => ⟨_, hm, b', hb', rfl, s'⟩, h1 rfl σ H1 (s.same e1)⟩
  | false => exact h2 rfl σ H1 (s.same e1)
/-! ### comprehensions -/
theorem Ev.more {r : Rs} {X : Own} (h : Ev K B O L te r) : Ev K B (O ++ X) L te r := fun σ H s Q q =>
  h σ H ⟨s.ex, fun p hp => s.own p (List.mem_append_left _ hp), (by have := s.nd; rw [List.map_append, List.nodup_append] at this; exact this.1), s.len, s.loc⟩ Q q
theorem EvT.more {b : Bool} {X : Own} (h : EvT K B O L t b) : EvT K B (O ++ X) L t b := fun σ H s Q q =>
  h σ H ⟨s.ex, fun p hp => s.own p (List.mem_append_left _ hp), (by have := s.nd; rw [List.map_append, List.nodup_append] at this; exact this.1), s.len, s.loc⟩ Q q
theorem wipe1 (σ : L2.St) (j : Nat) (x : Option V) : wipe ((wipe σ [j]).set j x) [j] = wipe σ [j] := by
  show ((σ.set j none).set j x).set j none = σ.set j none
  rw [List.set_set, List.set_set]
theorem Sat.wiped {σ : L2.St} {H : Hp} {j : Nat} {v : V} {d : Dt} (s : Sat K B O L σ H) (h : Tp K H v d) : Sat K B O (L.set j (some d)) ((wipe σ [j]).set j (some v)) H := by
  show Sat K B O (L.set j (some d)) ((σ.set j none).set j (some v)) H
  rw [List.set_set]
  exact s.set h
/-- what the new list bears at a turn -/
structure LcW (K : Fg) (H0 : Hp) (Dl : Addr) (ds : List Dt) (H : Hp) : Prop where
  new : H0 Dl = none
  ex : Same H0 H
  lst : ∃ vs, H Dl = some (.lst vs) ∧ TpA K H vs ds
theorem LcW.add {H0 H H1 : Hp} {Dl : Addr} {ds : List Dt} {d : Dt} {v : V} (w : LcW K H0 Dl ds H) (e : Same H H1) (r : Tp K H1 v d) (hz : ds.length < 100000) :
    ∃ acc, H1 Dl = some (.lst acc) ∧ acc.length < sizeLine ∧ LcW K H0 Dl (ds ++ [d]) (upd H1 Dl (.lst (acc ++ [v]))) := by
  obtain ⟨vs, h1, h2⟩ := w.lst
  have m : Mut (H1 Dl) := by rw [e _ _ h1]; trivial
  refine ⟨vs, e _ _ h1, by rw [h2.length, sizeLine_eq]; omega, w.new, fun b o q => ?_, vs ++ [v], upd_same, ((h2.same e).append (.cons r .nil)).keep (.mut m)⟩
  rw [upd_ne (ne_of_none q w.new)]
  exact e _ _ (w.ex b o q)
theorem filter_snoc {α β : Type} (p : α → Bool) (f : α → β) (pre : List α) (y : α) : ((pre ++ [y]).filter p).map f = (pre.filter p).map f ++ (if p y = true then [f y] else []) := by
  rw [List.filter_append, List.map_append]
  by_cases h : p y = true
  · rw [if_pos h, List.filter_cons, if_pos h]
    rfl
  · rw [if_neg h, List.filter_cons, if_neg h]
    rfl
/-- one turn of a comprehension -/
theorem lc_turn {α : Type} {enc : α → Dt} {p : α → Bool} {f : α → Dt} {tt : TT} {j : Nat} {σ : L2.St} {H0 H : Hp} {Dl : Addr} {y : α} {pre : List α} {v : V} (s : Sat K B O L σ H0) (w : LcW K H0 Dl ((pre.filter p).map f) H) (r : Tp K H v (enc y)) (hz : pre.length < 100000)
    (ht : EvT K B O (L.set j (some (enc y))) tt (p y)) (he : p y = true → Ev K B O (L.set j (some (enc y))) te (.dat (f y))) :
    gName j v (wipe σ [j]) H fun σ2 H2 => wipe σ2 [j] = wipe σ [j] ∧ tt σ2 H2 fun b H3 =>
      if b = true then te σ2 H3 fun y H4 => ∃ acc, H4 Dl = some (.lst acc) ∧ acc.length < sizeLine ∧ LcW K H0 Dl (((pre ++ [_root_.id ‹α›]).filter p).map f) (upd H4 Dl (.lst (acc ++ [y]))) else LcW K H0 Dl (((pre ++ [_root_.id ‹α›]).filter p).map f) H3 := by
  have sj := (s.same w.ex).wiped (j := j) r
  refine ⟨wipe1 σ j _, ht _ H sj _ fun H3 e3 => ?_⟩
  cases hp : p y with
  | true =>
    show te _ H3 _
    refine he hp _ H3 (sj.same e3) _ fun u H4 e4 r4 => ?_
    have l : ((pre.filter p).map f).length < 100000 := by
      rw [List.length_map]
      exact Nat.lt_of_le_of_lt (List.length_filter_le _ _) hz
    show ∃ acc, H4 Dl = some (.lst acc) ∧ acc.length < sizeLine ∧ LcW K H0 Dl (((pre ++ [y]).filter p).map f) _
    rw [filter_snoc, hp, if_pos rfl]
    exact w.add (e3.trans e4) r4 l
  | false =>
    show LcW K H0 Dl (((pre ++ [y]).filter p).map f) H3
    rw [filter_snoc, hp, if_neg (by decide), List.append_nil]
    exact ⟨w.new, w.ex.trans e3, let ⟨vs, h1, h2⟩ := w.lst; ⟨vs, e3 _ _ h1, h2.same e3⟩⟩
/-- [e for x in xs if t], xs a list known by its address -/
theorem ev_lcA {α : Type} {enc : α → Dt} {ys : List α} {p : α → Bool} {f : α → Dt} {tt : TT} {j : Nat} {a : Addr} {tl : TE} (h : Ev K B O L tl (.dat (.adr a))) (hl : Ls K B O (.dat (.adr a)) (ys.map enc)) (hz : ys.length ≤ 100000)
    (ht : ∀ y, y ∈ ys → EvT K B O (L.set j (some (enc y))) tt (p y)) (he : ∀ y, y ∈ ys → p y = true → Ev K B O (L.set j (some (enc y))) te (.dat (f y))) :
    Ev K B O L (tLc (iList K tl) (gName j) tt te [j]) (.new (.lst ((ys.filter p).map f))) := fun σ H s Q q =>
  h σ H s _ fun v H1 e1 r1 => by
    have s1 := s.same e1
    obtain ⟨b, vs, hb, h2, h3⟩ := hl L σ H1 H1 v s1 (.refl _) r1
    cases r1
    cases hb
    refine ⟨a, rfl, ⟨vs, h2⟩, fun Dl hD => lc_list (xs := vs) (fun i H => LcW K H1 Dl (((ys.take i).filter p).map f) H) ⟨hD, Same.new hD, [], upd_same, .nil⟩ (fun i H' _ w => w.ex.seq h2) (fun i x H' hx w => ?_) fun H' w => ?_⟩
    · obtain ⟨d, hd, rd⟩ := h3.getV hx
      rw [List.getElem?_map] at hd
      cases hy : ys[i]? with
      | none => rw [hy] at hd; cases hd
      | some y =>
        rw [hy] at hd
        cases hd
        have hlt : i < ys.length := (List.getElem?_eq_some_iff.mp hy).1
        have et : ys.take (i + 1) = ys.take i ++ [y] := by rw [List.take_add_one, hy]; rfl
        rw [et]
        have hm : y ∈ ys := List.mem_of_getElem? hy
        exact lc_turn (y := y) s1 w (rd.same w.ex) (by rw [List.length_take]; omega) (ht y hm) (he y hm)
    · have el : vs.length = ys.length := by rw [h3.length]; simp
      rw [el, List.take_length] at w
      obtain ⟨ws, h5, h6⟩ := w.lst
      exact q _ H' (e1.trans w.ex) ⟨Dl, rfl, e1.free hD, ws, h5, h6⟩
/-- the source is new -/
theorem ev_lcN {g : TG} {tt : TT} {vs : List Nat} {tl : TE} {ob : Ob} {r : Rs} (h : Ev K B O L tl (.new ob)) (k : ∀ p, Ev K B (O ++ [(p, ob)]) L (tLc (iList K (tC (.ref p))) g tt te vs) r) : Ev K B O L (tLc (iList K tl) g tt te vs) r := fun σ H s Q q =>
  h σ H s _ fun v H1 e1 ⟨p, hv, hn, r1⟩ => by
    subst hv
    exact k p σ H1 (s.addOwn e1 hn r1) Q fun v H2 e2 r2 => q v H2 (e1.trans e2) (r2.back e1)
theorem ev_lcNew {α : Type} {enc : α → Dt} {ys : List α} {p : α → Bool} {f : α → Dt} {tt : TT} {j : Nat} {tl : TE} (h : Ev K B O L tl (.new (.lst (ys.map enc)))) (hz : ys.length ≤ 100000)
    (ht : ∀ y, y ∈ ys → EvT K B O (L.set j (some (enc y))) tt (p y)) (he : ∀ y, y ∈ ys → p y = true → Ev K B O (L.set j (some (enc y))) te (.dat (f y))) :
    Ev K B O L (tLc (iList K tl) (gName j) tt te [j]) (.new (.lst ((ys.filter p).map f))) :=
  ev_lcN h fun q => ev_lcA (enc := enc) ev_adr (Ls.own (j := O.length) (by simp)) hz (fun y hy => (ht y hy).more) fun y hy hp => (he y hy hp).more
/-- over a tuple -/
theorem ev_lcT {α : Type} {enc : α → Dt} {ys : List α} {p : α → Bool} {f : α → Dt} {tt : TT} {j : Nat} {tl : TE} (h : Ev K B O L tl (.dat (.tup (ys.map enc)))) (hz : ys.length ≤ 100000)
    (ht : ∀ y, y ∈ ys → EvT K B O (L.set j (some (enc y))) tt (p y)) (he : ∀ y, y ∈ ys → p y = true → Ev K B O (L.set j (some (enc y))) te (.dat (f y))) :
    Ev K B O L (tLc (iTup K tl) (gName j) tt te [j]) (.new (.lst ((ys.filter p).map f))) := fun σ H s Q q =>
  h σ H s _ fun v H1 e1 r1 => by
    have s1 := s.same e1
    cases r1 with
    | tup h2 h3 =>
      rename_i a vs
      refine ⟨a, rfl, ⟨vs, h2⟩, fun Dl hD => lc_tup (xs := vs) (fun i H => LcW K H1 Dl (((ys.take i).filter p).map f) H) ⟨hD, Same.new hD, [], upd_same, .nil⟩ (fun i H' _ w => keep_t (.of w.ex) h2) (fun i x H' hx w => ?_) fun H' w => ?_⟩
      · obtain ⟨d, hd, rd⟩ := h3.getV hx
        rw [List.getElem?_map] at hd
        cases hy : ys[i]? with
        | none => rw [hy] at hd; cases hd
        | some y =>
          rw [hy] at hd
          cases hd
          have hlt : i < ys.length := (List.getElem?_eq_some_iff.mp hy).1
          have et : ys.take (i + 1) = ys.take i ++ [y] := by rw [List.take_add_one, hy]; rfl
          rw [et]
          have hm : y ∈ ys := List.mem_of_getElem? hy
          exact lc_turn (y := y) s1 w (rd.same w.ex) (by rw [List.length_take]; omega) (ht y hm) (he y hm)
      · have el : vs.length = ys.length := by rw [h3.length]; simp
        rw [el, List.take_length] at w
        obtain ⟨ws, h5, h6⟩ := w.lst
        exact q _ H' (e1.trans w.ex) ⟨Dl, rfl, e1.free hD, ws, h5, h6⟩
/-- over range(n) -/
theorem ev_lcR {n : Nat} {p : Nat → Bool} {f : Nat → Dt} {tt : TT} {j : Nat} {ta : TA} (h : EvD K B O L ta [.int n]) (hn : n ≤ 100000)
    (ht : ∀ y, y < n → EvT K B O (L.set j (some (.int (y : Nat)))) tt (p y)) (he : ∀ y, y < n → p y = true → Ev K B O (L.set j (some (.int (y : Nat)))) te (.dat (f y))) :
    Ev K B O L (tLc (iRng1 ta) (gName j) tt te [j]) (.new (.lst (((List.range n).filter p).map f))) := fun σ H s Q q =>
  h σ H s _ fun vs H1 e1 r1 => by
    have s1 := s.same e1
    have r2 := r1.dats
    cases r2 with
    | cons r t =>
      cases t
      cases r
      refine ⟨(n : Int), rfl, by omega, by omega, fun Dl hD => lc_range (lo := 0) (n := (n : Int).toNat) (fun i H => LcW K H1 Dl (((List.range i).filter p).map f) H) ⟨hD, Same.new hD, [], upd_same, .nil⟩ (fun i H' hi w => ?_) fun H' w => ?_⟩
      · have hi' : i < n := by simpa using hi
        have e0 : (0 : Int) + (i : Int) = (i : Int) := Int.zero_add _
        rw [List.range_succ]
        show gName j (.int ((0 : Int) + (i : Int))) _ _ _
        rw [e0]
        exact lc_turn (enc := fun (y : Nat) => Dt.int y) (y := i) s1 w (.int _) (by rw [List.length_range]; omega) (ht i hi') (he i hi')
      · have en : (n : Int).toNat = n := by simp
        rw [en] at w
        obtain ⟨ws, h5, h6⟩ := w.lst
        exact q _ H' (e1.trans w.ex) ⟨Dl, rfl, e1.free hD, ws, h5, h6⟩
theorem et_yes : EvT K B O L tYes true := fun σ H s Q q => q H (.refl H)
end
end GT
namespace GT
open PySem PySem.Spec PyProof.Rows L2
/-! ### calls of own defs -/
/-- what an argument is -/
inductive As where
  | dat (d : Dt)
  | lst (ds : List Dt)
  | any (φ : Hp → V → Prop)
def AsR (K : Fg) (H : Hp) (v : V) : As → Prop
  | .dat d => Tp K H v d
  | .lst ds => LsR K H v ds
  | .any φ => φ H v
inductive AsA (K : Fg) (H : Hp) : List V → List As → Prop
  | nil : AsA K H [] []
  | cons {v : V} {vs : List V} {a : As} {as : List As} : AsR K H v a → AsA K H vs as → AsA K H (v :: vs) (a :: as)
theorem AsA.length {K : Fg} {H : Hp} : ∀ {vs : List V} {as : List As}, AsA K H vs as → vs.length = as.length
  | _, _, .nil => rfl
  | _, _, .cons _ t => congrArg (· + 1) (AsA.length t)
def AsOf (K : Fg) (B : Hp) (O : Own) (r : Rs) (a : As) : Prop := ∀ L σ H H2 v, Sat K B O L σ H → Same H H2 → RsR K H H2 v r → AsR K H2 v a
inductive AsAll (K : Fg) (B : Hp) (O : Own) : List Rs → List As → Prop
  | nil : AsAll K B O [] []
  | cons {r : Rs} {rs : List Rs} {a : As} {as : List As} : AsOf K B O r a → AsAll K B O rs as → AsAll K B O (r :: rs) (a :: as)
section
variable {K : Fg} {B : Hp} {O : Own} {L : Sl}
theorem AsOf.dat {d : Dt} : AsOf K B O (.dat d) (.dat d) := fun _ _ _ _ _ _ _ r => r
theorem AsOf.lst {r : Rs} {ds : List Dt} (h : Ls K B O r ds) : AsOf K B O r (.lst ds) := fun L σ H H2 v s e x => h L σ H H2 v s e x
theorem AsAll.run {σ : L2.St} {H H2 : Hp} (s : Sat K B O L σ H) (e : Same H H2) : ∀ {vs : List V} {rs : List Rs} {as : List As}, AsAll K B O rs as → RsA K H H2 vs rs → AsA K H2 vs as
  | _, _, _, .nil, .nil => .nil
  | _, _, _, .cons h t, .cons r rt => .cons (h L σ H H2 _ s e r) (AsAll.run s e t rt)
end
/-- a promise: nothing is changed, the answer is res x -/
def SpF (K : Fg) {α : Type} (as : α → List As) (pre : α → Prop) (res : α → Rs) : Sp := fun vs H Q _ => ∃ x, pre x ∧ AsA K H vs (as x) ∧ Rt K H Q (res x)
/-- .. or an exception of the class at C, where ok is false -/
def SpX (K : Fg) (C : Addr) {α : Type} (as : α → List As) (pre : α → Prop) (ok : α → Bool) (res : α → Rs) : Sp := fun vs H Q E => ∃ x, pre x ∧ AsA K H vs (as x) ∧ (ok x = true → Rt K H Q (res x)) ∧ (ok x = false → ∀ H', Same H H' → E (.ref C) none H')
section
variable {K : Fg} {B : Hp} {O : Own} {L : Sl} {te ta tb tx : TE} {t : TT} {E : XK}
theorem ev_call {α : Type} {as : α → List As} {pre : α → Prop} {res : α → Rs} {tr : TA} {rs : List Rs} (x : α) (h : EvA K B O L tr rs) (hp : pre x) (ha : AsAll K B O rs (as x)) : Ev K B O L (tCall (SpF K as pre res) [] E tr) (res x) := fun σ H s Q q =>
  h σ H s _ fun vs H1 e1 r1 => by
    show SpF K as pre res (vs ++ []) H1 Q E
    rw [List.append_nil]
    exact ⟨x, hp, ha.run s e1 r1, fun v H2 e2 r2 => q v H2 (e1.trans e2) (r2.back e1)⟩
theorem ev_callX {α : Type} {as : α → List As} {pre : α → Prop} {ok : α → Bool} {res : α → Rs} {C : Addr} {tr : TA} {rs : List Rs} (x : α) (h : EvA K B O L tr rs) (hp : pre x) (ho : ok x = true) (ha : AsAll K B O rs (as x)) : Ev K B O L (tCall (SpX K C as pre ok res) [] E tr) (res x) := fun σ H s Q q =>
  h σ H s _ fun vs H1 e1 r1 => by
    show SpX K C as pre ok res (vs ++ []) H1 Q E
    rw [List.append_nil]
    exact ⟨x, hp, ha.run s e1 r1, fun _ v H2 e2 r2 => q v H2 (e1.trans e2) (r2.back e1), fun z => by rw [ho] at z; cases z⟩
/-- r is an instance of C without an attribute m -/
def IsI (K : Fg) (B : Hp) (O : Own) (C : Addr) (m : Str) (r : Rs) : Prop := ∀ L σ H H2 v, Sat K B O L σ H → Same H H2 → RsR K H H2 v r → ∃ a dx fs, v = .ref a ∧ H2 a = some (.ins C dx fs) ∧ fs.lookup m = none
theorem ev_meth {α : Type} {as : α → List As} {pre : α → Prop} {res : α → Rs} {C : Addr} {m : Str} {tr : TA} {r : Rs} {rs : List Rs} (x : α) (ho : Ev K B O L ta r) (hi : IsI K B O C m r) (h : EvA K B O L tr rs) (hp : pre x) (ha : AsAll K B O (r :: rs) (as x)) :
    Ev K B O L (tMeth C m (SpF K as pre res) [] E ta tr) (res x) := fun σ H s Q q =>
  ho σ H s _ fun v H1 e1 r1 => by
    obtain ⟨a, dx, fs, rfl, hv, hm⟩ := hi L σ H H1 v s e1 r1
    refine ⟨a, dx, fs, rfl, hv, hm, h σ H1 (s.same e1) _ fun vs H2 e2 r2 => ?_⟩
    show SpF K as pre res (.ref a :: (vs ++ [])) H2 Q E
    rw [List.append_nil]
    exact ⟨x, hp, ha.run s (e1.trans e2) (.cons (r1.same e2) (r2.back e1)), fun v H3 e3 r3 => q v H3 ((e1.trans e2).trans e3) (r3.back (e1.trans e2))⟩
theorem ev_methX {α : Type} {as : α → List As} {pre : α → Prop} {ok : α → Bool} {res : α → Rs} {C C' : Addr} {m : Str} {tr : TA} {r : Rs} {rs : List Rs} (x : α) (ho : Ev K B O L ta r) (hi : IsI K B O C m r) (h : EvA K B O L tr rs) (hp : pre x) (hk : ok x = true) (ha : AsAll K B O (r :: rs) (as x)) :
    Ev K B O L (tMeth C m (SpX K C' as pre ok res) [] E ta tr) (res x) := fun σ H s Q q =>
  ho σ H s _ fun v H1 e1 r1 => by
    obtain ⟨a, dx, fs, rfl, hv, hm⟩ := hi L σ H H1 v s e1 r1
    refine ⟨a, dx, fs, rfl, hv, hm, h σ H1 (s.same e1) _ fun vs H2 e2 r2 => ?_⟩
    show SpX K C' as pre ok res (.ref a :: (vs ++ [])) H2 Q E
    rw [List.append_nil]
    exact ⟨x, hp, ha.run s (e1.trans e2) (.cons (r1.same e2) (r2.back e1)), fun _ v H3 e3 r3 => q v H3 ((e1.trans e2).trans e3) (r3.back (e1.trans e2)), fun z => by rw [hk] at z; cases z⟩
end
/-! ### a def's body -/
theorem sat_start {K : Fg} {B : Hp} {N : List Str} {vs : List V} {ds : List Dt} (h : TpA K B vs ds) (hN : ds.length ≤ N.length) : Sat K B [] (ds.map some ++ List.replicate (N.length - ds.length) none) (L2.start N vs) B := by
  refine ⟨.refl B, fun p hp => absurd hp (by simp), by simp, ?_, fun i d e => ?_⟩
  · unfold L2.start
    rw [List.length_append, List.length_append, List.length_map, List.length_map, List.length_replicate, List.length_replicate, h.length]
  · have hi : i < ds.length := by
      by_cases hi : i < ds.length
      · exact hi
      · rw [List.getElem?_append_right (by simpa using hi), List.getElem?_replicate] at e
        split at e <;> cases e
    rw [List.getElem?_append_left (by simpa using hi), List.getElem?_map] at e
    cases hd : ds[i]? with
    | none => rw [hd] at e; cases e
    | some d' =>
      rw [hd] at e
      cases e
      obtain ⟨v, h1, h2⟩ := h.get hd
      refine ⟨v, ?_, h2⟩
      unfold L2.start
      rw [List.getElem?_append_left (by have := (List.getElem?_eq_some_iff.mp h1).1; simpa using this), List.getElem?_map, h1]
      rfl
theorem body_at {K : Fg} {B : Hp} {N : List Str} {vs : List V} (ds : List Dt) {L : Sl} {P : L2.St → Hp → Prop} (h : TpA K B vs ds) (hn : Nx K B [] L P) (hN : Nat.ble ds.length N.length = true := by rfl) (hL : ds.map some ++ List.replicate (N.length - ds.length) none = L := by rfl) : P (L2.start N vs) B :=
  hn _ _ (hL ▸ sat_start h (Nat.le_of_ble_eq_true hN))
section
variable {P : Program} {w : World} {K : Fg} {mg : Str → Option Value} {base : Heap}
theorem fun_ok {x qual : Str} {st : Stmt} {f : Addr} {fd : FuncData} {N ps : List Str} {k : Nat} {α : Type} {as : α → List As} {pre : α → Prop} {res : α → Rs} (F : Fun K x qual st f fd) (S : FnScope N ps (defScope st)) (len : ∀ x, (as x).length = ps.length)
    (hbody : ∀ (cdv : Value) (A : Around) (outer : List Env) (s : Shared) (B : Hp) (vs : List V) (R : VK) (E : XK) (x : α), Room k (A.deeper (envOfC qual (defScope st) s.heap.objs.size f cdv)) → pre x → AsA K B vs (as x) → Rt K B R (res x) →
      ∃ t, PSs (cxOf CX0 P w K mg base N qual (defScope st) f cdv A outer s B E).nox (defBody st) t ∧ t { nx := fun _ H' => R .non H', rt := R } (L2.start N vs) B) : FnOk P w K mg base CX0 (k + 1) f fd ps (SpF K as pre res) :=
  F.ok S (fun vs H Q E ⟨y, _, h, _⟩ => h.length.trans (len y)) fun cdv A outer s H vs Q E hr ⟨y, hp, ha, hq⟩ => hbody cdv A outer s H vs Q E y hr hp ha hq
end
/-! ### built-ins -/
section
variable {K : Fg} {B : Hp} {O : Own} {L : Sl} {te ta tb tx : TE} {t : TT}
theorem ev_cb {r : List V → Hp → VK → Prop} {tr : TA} {ds : List Dt} {z : Rs} (h : EvD K B O L tr ds)
    (hr : ∀ σ H, Sat K B O L σ H → ∀ vs, TpA K H vs ds → ∀ Q : VK, (∀ v H2, Same H H2 → RsR K H H2 v z → Q v H2) → r vs H Q) : Ev K B O L (tCB r tr) z := fun σ H s Q q =>
  h σ H s _ fun vs H1 e1 r1 => hr σ H1 (s.same e1) vs r1.dats Q fun v H2 e2 r2 => q v H2 (e1.trans e2) (r2.back e1)
/-- of one thing to be read as a list -/
theorem ev_cbL {r : List V → Hp → VK → Prop} {x : Rs} {ds : List Dt} {z : Rs} (h : Ev K B O L ta x) (hl : Ls K B O x ds)
    (hr : ∀ σ H, Sat K B O L σ H → ∀ a vs, SqL K H a vs → TpA K H vs ds → ∀ Q : VK, (∀ v H2, Same H H2 → RsR K H H2 v z → Q v H2) → r [.ref a] H Q) : Ev K B O L (tCB r (tCons ta tNil)) z := fun σ H s Q q =>
  h σ H s _ fun v H1 e1 r1 => by
    obtain ⟨a, vs, rfl, h2, h3⟩ := hl L σ H H1 v s e1 r1
    exact hr σ H1 (s.same e1) a vs h2 h3 Q fun v H2 e2 r2 => q v H2 (e1.trans e2) (r2.back e1)
theorem ev_abs {i : Int} (h : Ev K B O L ta (.dat (.int i))) : Ev K B O L (tCB (fun xs H Q => ∃ i, xs = [.int i] ∧ Q (.int (if i < 0 then -i else i)) H) (tCons ta tNil)) (.dat (.int (if i < 0 then -i else i))) :=
  ev_cb (ed_cons h ed_nil) fun σ H s vs hv Q q => by
    cases hv with
    | cons r t =>
      cases t
      cases r
      exact ⟨i, rfl, q _ H (.refl H) (.int _)⟩
theorem ev_min2 {i j : Int} (h : Ev K B O L ta (.dat (.int i))) (h' : Ev K B O L tb (.dat (.int j))) : Ev K B O L (tCB (fun xs H Q => ∃ i j, xs = [.int i, .int j] ∧ Q (.int (if j < i then j else i)) H) (tCons ta (tCons tb tNil))) (.dat (.int (if j < i then j else i))) :=
  ev_cb (ed_cons h (ed_cons h' ed_nil)) fun σ H s vs hv Q q => by
    cases hv with
    | cons r t =>
      cases t with
      | cons r' t' =>
        cases t'
        cases r
        cases r'
        exact ⟨i, j, rfl, q _ H (.refl H) (.int _)⟩
theorem ev_max2 {i j : Int} (h : Ev K B O L ta (.dat (.int i))) (h' : Ev K B O L tb (.dat (.int j))) : Ev K B O L (tCB (fun xs H Q => ∃ i j, xs = [.int i, .int j] ∧ Q (.int (if j > i then j else i)) H) (tCons ta (tCons tb tNil))) (.dat (.int (if j > i then j else i))) :=
  ev_cb (ed_cons h (ed_cons h' ed_nil)) fun σ H s vs hv Q q => by
    cases hv with
    | cons r t =>
      cases t with
      | cons r' t' =>
        cases t'
        cases r
        cases r'
        exact ⟨i, j, rfl, q _ H (.refl H) (.int _)⟩
theorem ev_intB {b : Bool} (h : Ev K B O L ta (.dat (.bl b))) : Ev K B O L (tCB (fun xs H Q => (∃ i, xs = [.int i] ∧ Q (.int i) H) ∨ ∃ k, xs = [.bl k] ∧ Q (.int (if k then 1 else 0)) H) (tCons ta tNil)) (.dat (.int (if b then 1 else 0))) :=
  ev_cb (ed_cons h ed_nil) fun σ H s vs hv Q q => by
    cases hv with
    | cons r t =>
      cases t
      cases r
      exact .inr ⟨b, rfl, q _ H (.refl H) (.int _)⟩
theorem ev_strI {i : Int} (h : Ev K B O L ta (.dat (.int i))) (hz : i.natAbs.log2 < 1920) : Ev K B O L (tCB (fun xs H Q => ∃ i, xs = [.int i] ∧ i.natAbs.log2 < 1920 ∧ Q (.str (toString i)) H) (tCons ta tNil)) (.dat (.str (toString i))) :=
  ev_cb (ed_cons h ed_nil) fun σ H s vs hv Q q => by
    cases hv with
    | cons r t =>
      cases t
      cases r
      exact ⟨i, rfl, hz, q _ H (.refl H) (.str _)⟩
theorem ev_lenL {x : Rs} {ds : List Dt} (h : Ev K B O L ta x) (hl : Ls K B O x ds) : Ev K B O L (tCB (fun xs H Q => ∃ p ys, xs = [.ref p] ∧ (SqL K H p ys ∨ SqT K H p ys) ∧ Q (.int ys.length) H) (tCons ta tNil)) (.dat (.int ds.length)) :=
  ev_cbL h hl fun σ H s a vs h2 h3 Q q => ⟨a, vs, rfl, .inl h2, q _ H (.refl H) (by rw [h3.length]; exact .int _)⟩
theorem ev_lenT {ds : List Dt} (h : Ev K B O L ta (.dat (.tup ds))) : Ev K B O L (tCB (fun xs H Q => ∃ p ys, xs = [.ref p] ∧ (SqL K H p ys ∨ SqT K H p ys) ∧ Q (.int ys.length) H) (tCons ta tNil)) (.dat (.int ds.length)) :=
  ev_cb (ed_cons h ed_nil) fun σ H s vs hv Q q => by
    cases hv with
    | cons r t =>
      cases t
      cases r with
      | tup h1 h2 => exact ⟨_, _, rfl, .inr h1, q _ H (.refl H) (by rw [h2.length]; exact .int _)⟩
theorem ev_lenS {z : Str} (h : Ev K B O L ta (.dat (.str z))) (hz : z.length ≤ 100000) : Ev K B O L (tCB (fun xs H Q => ∃ z, xs = [.str z] ∧ z.length ≤ sizeLine ∧ Q (.int z.length) H) (tCons ta tNil)) (.dat (.int z.length)) :=
  ev_cb (ed_cons h ed_nil) fun σ H s vs hv Q q => by
    cases hv with
    | cons r t =>
      cases t
      cases r
      exact ⟨z, rfl, by rw [sizeLine_eq]; omega, q _ H (.refl H) (.int _)⟩
/-- list(xs) -/
theorem ev_listL {x : Rs} {ds : List Dt} (h : Ev K B O L ta x) (hl : Ls K B O x ds) : Ev K B O L (tCB (fun xs H Q => ∃ p ys, xs = [.ref p] ∧ (SqL K H p ys ∨ SqT K H p ys) ∧ ∀ l, H l = none → Q (.ref l) (upd H l (.lst ys))) (tCons ta tNil)) (.new (.lst ds)) :=
  ev_cbL h hl fun σ H s a vs h2 h3 Q q => ⟨a, vs, rfl, .inl h2, fun l hl => q _ _ (Same.new hl) ⟨l, rfl, hl, vs, upd_same, h3.same (Same.new hl)⟩⟩
theorem ev_listT {ds : List Dt} (h : Ev K B O L ta (.dat (.tup ds))) : Ev K B O L (tCB (fun xs H Q => ∃ p ys, xs = [.ref p] ∧ (SqL K H p ys ∨ SqT K H p ys) ∧ ∀ l, H l = none → Q (.ref l) (upd H l (.lst ys))) (tCons ta tNil)) (.new (.lst ds)) :=
  ev_cb (ed_cons h ed_nil) fun σ H s vs hv Q q => by
    cases hv with
    | cons r t =>
      cases t
      cases r with
      | tup h1 h2 => exact ⟨_, _, rfl, .inr h1, fun l hl => q _ _ (Same.new hl) ⟨l, rfl, hl, _, upd_same, h2.same (Same.new hl)⟩⟩
/-- tuple(xs) -/
theorem ev_tupL {x : Rs} {ds : List Dt} (h : Ev K B O L ta x) (hl : Ls K B O x ds) : Ev K B O L (tCB (fun xs H Q => ∃ p ys, xs = [.ref p] ∧ ((SqL K H p ys ∧ ∀ l, H l = none → Q (.ref l) (upd H l (.tup ys))) ∨ (SqT K H p ys ∧ Q (.ref p) H))) (tCons ta tNil)) (.dat (.tup ds)) :=
  ev_cbL h hl fun σ H s a vs h2 h3 Q q => ⟨a, vs, rfl, .inl ⟨h2, fun l hl => q _ _ (Same.new hl) (.tup (.of upd_same) (h3.same (Same.new hl)))⟩⟩
/-! isinstance -/
def tyD : Dt → Option String
  | .non => some "NoneType"
  | .bl _ => some "bool"
  | .int _ => some "int"
  | .str _ => some "str"
  | .tup _ => some "tuple"
  | .adr _ => none
theorem Tp.ty {H : Hp} {v : V} {d : Dt} {t : String} (h : Tp K H v d) (e : tyD d = some t) : TyX K H v (.type t) := by
  cases h with
  | non => cases e; exact .base .non
  | bl b => cases e; exact .base (.bl b)
  | int i => cases e; exact .base (.int i)
  | str x => cases e; exact .base (.str x)
  | adr a => cases e
  | tup h1 h2 =>
    cases e
    rcases h1 with (h1 | ⟨o, h1⟩) | ⟨o, its, n, h1, h2, _⟩
    · exact .base (.tup h1)
    · exact .fTuple h1
    · exact .kTuple h1 h2
theorem ev_isi {d : Dt} {t n : String} {b : Bool} (h : Ev K B O L ta (.dat d)) (ht : tyD d = some t) (hb : kitB t n = some b) : Ev K B O L (tCB (rIsi K) (tCons ta (tCons (tC (.ty n)) tNil))) (.dat (.bl b)) := fun σ H s Q q =>
  h σ H s _ fun v H1 e1 r1 => ⟨v, .ty n, .type t, .type n, b, rfl, .ty n, r1.ty ht, kit_ty hb, q _ H1 e1 (.bl b)⟩
theorem ev_isiL {x : Rs} {ds : List Dt} {n : String} {b : Bool} (h : Ev K B O L ta x) (hl : Ls K B O x ds) (hb : kitB "list" n = some b) : Ev K B O L (tCB (rIsi K) (tCons ta (tCons (tC (.ty n)) tNil))) (.dat (.bl b)) := fun σ H s Q q =>
  h σ H s _ fun v H1 e1 r1 => by
    obtain ⟨a, vs, rfl, h2, h3⟩ := hl L σ H H1 v s e1 r1
    refine ⟨_, .ty n, .type "list", .type n, b, rfl, .ty n, ?_, kit_ty hb, q _ H1 e1 (.bl b)⟩
    rcases h2 with (h2 | ⟨o, h2⟩) | ⟨o, its, n, h1, h2, _⟩
    · exact .base (.lst h2)
    · exact .base (.frz h2)
    · exact .kList h1 h2
/-! sum, all, min, max -/
theorem ev_sum {x : Rs} {ns : List Int} (h : Ev K B O L ta x) (hl : Ls K B O x (ns.map .int)) : Ev K B O L (tCB (rSum K) (tCons ta tNil)) (.dat (.int ns.sum)) :=
  ev_cbL h hl fun σ H s a vs h2 h3 Q q => ⟨a, ns, rfl, by rw [← h3.ints]; exact h2, q _ H (.refl H) (.int _)⟩
theorem ev_all {x : Rs} {bs : List Bool} (h : Ev K B O L ta x) (hl : Ls K B O x (bs.map .bl)) : Ev K B O L (tCB (rAll K) (tCons ta tNil)) (.dat (.bl (bs.all id))) :=
  ev_cbL h hl fun σ H s a vs h2 h3 Q q => ⟨a, bs, rfl, by rw [← h3.bls]; exact h2, q _ H (.refl H) (.bl _)⟩
def IsMin (ns : List Int) (m : Int) : Prop := m ∈ ns ∧ ∀ y, y ∈ ns → m ≤ y
def IsMax (ns : List Int) (m : Int) : Prop := m ∈ ns ∧ ∀ y, y ∈ ns → y ≤ m
theorem IsMin.one {ns : List Int} {m k : Int} (h : IsMin ns m) (h' : IsMin ns k) : m = k := Int.le_antisymm (h.2 _ h'.1) (h'.2 _ h.1)
theorem IsMax.one {ns : List Int} {m k : Int} (h : IsMax ns m) (h' : IsMax ns k) : m = k := Int.le_antisymm (h'.2 _ h.1) (h.2 _ h'.1)
theorem ev_minL {x : Rs} {ns : List Int} {m : Int} (h : Ev K B O L ta x) (hl : Ls K B O x (ns.map .int)) (hm : IsMin ns m) : Ev K B O L (tCB (rMin K) (tCons ta tNil)) (.dat (.int m)) :=
  ev_cbL h hl fun σ H s a vs h2 h3 Q q => ⟨a, ns, rfl, by rw [← h3.ints]; exact h2, List.length_pos_of_mem hm.1, fun k h4 h5 => by
    rw [IsMin.one ⟨h4, h5⟩ hm]
    exact q _ H (.refl H) (.int _)⟩
theorem ev_maxL {x : Rs} {ns : List Int} {m : Int} (h : Ev K B O L ta x) (hl : Ls K B O x (ns.map .int)) (hm : IsMax ns m) : Ev K B O L (tCB (rMax K) (tCons ta tNil)) (.dat (.int m)) :=
  ev_cbL h hl fun σ H s a vs h2 h3 Q q => ⟨a, ns, rfl, by rw [← h3.ints]; exact h2, List.length_pos_of_mem hm.1, fun k h4 h5 => by
    rw [IsMax.one ⟨h4, h5⟩ hm]
    exact q _ H (.refl H) (.int _)⟩
/-! x in xs: flat things -/
def flatD : Dt → Bool
  | .non => true
  | .bl _ => true
  | .int _ => true
  | .str _ => true
  | _ => false
theorem TpA.intsInv {H : Hp} {vs : List V} {ns : List Int} (h : TpA K H vs (ns.map .int)) : vs = ns.map V.int := h.ints ns
theorem flat_ints (ns : List Int) : (ns.map V.int).all flatV = true := by
  rw [List.all_eq_true]
  intro x hx
  obtain ⟨n, _, rfl⟩ := List.mem_map.mp hx
  rfl
theorem inV_ints (i : Int) (ns : List Int) : inV (.int i) (ns.map V.int) = decide (i ∈ ns) := by
  unfold inV
  induction ns with
  | nil => rfl
  | cons n ns ih =>
    rw [List.map_cons, List.any_cons, ih]
    show ((n == i) || decide (i ∈ ns)) = decide (i ∈ n :: ns)
    by_cases h : n = i
    · subst h
      simp
    · have h' : ¬ i = n := fun z => h z.symm
      simp [h, h']
theorem ev_inT {i : Int} {ns : List Int} (ha : Ev K B O L ta (.dat (.int i))) (hb : Ev K B O L tb (.dat (.tup (ns.map .int)))) : Ev K B O L (tOp (rIn K false) ta tb) (.dat (.bl (decide (i ∈ ns)))) :=
  ev_op ha hb fun σ H s x y hx hy Q q => by
    cases hx
    cases hy with
    | tup h1 h2 =>
      rw [h2.intsInv] at h1
      refine ⟨_, _, rfl, .inr h1, rfl, flat_ints ns, ?_⟩
      rw [if_neg (by decide), inV_ints]
      exact q _ H (.refl H) (.bl _)
theorem ev_notInT {i : Int} {ns : List Int} (ha : Ev K B O L ta (.dat (.int i))) (hb : Ev K B O L tb (.dat (.tup (ns.map .int)))) : Ev K B O L (tOp (rIn K true) ta tb) (.dat (.bl (!decide (i ∈ ns)))) :=
  ev_op ha hb fun σ H s x y hx hy Q q => by
    cases hx
    cases hy with
    | tup h1 h2 =>
      rw [h2.intsInv] at h1
      refine ⟨_, _, rfl, .inr h1, rfl, flat_ints ns, ?_⟩
      rw [if_pos rfl, inV_ints]
      exact q _ H (.refl H) (.bl _)
/-! == of data -/
mutual
def toPy : Dt → PyData
  | .non => .none
  | .bl b => .bool b
  | .int i => .int i
  | .str x => .str x
  | .tup ds => .tuple (toPyA ds)
  | .adr _ => .none
def toPyA : List Dt → List PyData
  | [] => []
  | d :: ds => toPy d :: toPyA ds
end
mutual
def noA : Dt → Bool
  | .adr _ => false
  | .tup ds => noAA ds
  | _ => true
def noAA : List Dt → Bool
  | [] => true
  | d :: ds => noA d && noAA ds
end
mutual
theorem Tp.dp {H : Hp} : ∀ {v : V} {d : Dt}, Tp K H v d → noA d = true → Dp K H v (toPy d)
  | _, _, .non, _ => .non
  | _, _, .bl b, _ => .bl b
  | _, _, .int i, _ => .int i
  | _, _, .str x, _ => .str x
  | _, _, .adr _, e => by cases e
  | _, _, .tup h t, e => .tup h (TpA.dp t e)
theorem TpA.dp {H : Hp} : ∀ {v : List V} {d : List Dt}, TpA K H v d → noAA d = true → DpAll K H v (toPyA d)
  | _, _, .nil, _ => .nil
  | _, _, .cons h t, e => by
    have e' := Bool.and_eq_true_iff.mp e
    exact .cons (h.dp e'.1) (TpA.dp t e'.2)
end
/-- == of two data -/
def eqD (d e : Dt) : Bool := PyData.eqv (toPy d) (toPy e)
def okD (d : Dt) : Bool := noA d && SeqAt.shaped (toPy d)
def eqL (ds es : List Dt) : Bool := PyData.eqv (.list (toPyA ds)) (.list (toPyA es))
def okL (ds : List Dt) : Bool := noAA ds && SeqAt.shaped (.list (toPyA ds))
theorem ev_eqD {d e : Dt} (ha : Ev K B O L ta (.dat d)) (hb : Ev K B O L tb (.dat e)) (h1 : okD d = true) (h2 : okD e = true) : Ev K B O L (tOp (rEqD K) ta tb) (.dat (.bl (eqD d e))) :=
  ev_op ha hb fun σ H s x y hx hy Q q => by
    have a1 := Bool.and_eq_true_iff.mp h1
    have a2 := Bool.and_eq_true_iff.mp h2
    exact ⟨_, _, hx.dp a1.1, hy.dp a2.1, a1.2, a2.2, q _ H (.refl H) (.bl _)⟩
theorem ev_neD {d e : Dt} (ha : Ev K B O L ta (.dat d)) (hb : Ev K B O L tb (.dat e)) (h1 : okD d = true) (h2 : okD e = true) : Ev K B O L (tOp (rNeD K) ta tb) (.dat (.bl (!eqD d e))) :=
  ev_op ha hb fun σ H s x y hx hy Q q => by
    have a1 := Bool.and_eq_true_iff.mp h1
    have a2 := Bool.and_eq_true_iff.mp h2
    exact ⟨_, _, hx.dp a1.1, hy.dp a2.1, a1.2, a2.2, q _ H (.refl H) (.bl _)⟩
theorem LsR.dp {H : Hp} {v : V} {ds : List Dt} (h : LsR K H v ds) (e : noAA ds = true) : Dp K H v (.list (toPyA ds)) := by
  obtain ⟨a, vs, rfl, h1, h2⟩ := h
  exact .lst h1 (h2.dp e)
theorem ev_eqL {x y : Rs} {ds es : List Dt} (ha : Ev K B O L ta x) (hx : Ls K B O x ds) (hb : Ev K B O L tb y) (hy : Ls K B O y es) (h1 : okL ds = true) (h2 : okL es = true) : Ev K B O L (tOp (rEqD K) ta tb) (.dat (.bl (eqL ds es))) := fun σ H s Q q =>
  ha σ H s _ fun v H1 e1 r1 => hb σ H1 (s.same e1) _ fun u H2 e2 r2 => by
    have a1 := Bool.and_eq_true_iff.mp h1
    have a2 := Bool.and_eq_true_iff.mp h2
    exact ⟨_, _, ((hx L σ H H1 v s e1 r1).same e2).dp a1.1, (hy L σ H1 H2 u (s.same e1) e2 r2).dp a2.1, a1.2, a2.2, q _ H2 (e1.trans e2) (.bl _)⟩
theorem ev_neL {x y : Rs} {ds es : List Dt} (ha : Ev K B O L ta x) (hx : Ls K B O x ds) (hb : Ev K B O L tb y) (hy : Ls K B O y es) (h1 : okL ds = true) (h2 : okL es = true) : Ev K B O L (tOp (rNeD K) ta tb) (.dat (.bl (!eqL ds es))) := fun σ H s Q q =>
  ha σ H s _ fun v H1 e1 r1 => hb σ H1 (s.same e1) _ fun u H2 e2 r2 => by
    have a1 := Bool.and_eq_true_iff.mp h1
    have a2 := Bool.and_eq_true_iff.mp h2
    exact ⟨_, _, ((hx L σ H H1 v s e1 r1).same e2).dp a1.1, (hy L σ H1 H2 u (s.same e1) e2 r2).dp a2.1, a1.2, a2.2, q _ H2 (e1.trans e2) (.bl _)⟩
theorem toPyA_map (f : Dt → PyData) (h : ∀ d, f d = toPy d) : ∀ ds : List Dt, toPyA ds = ds.map f
  | [] => rfl
  | d :: ds => by rw [toPyA, toPyA_map f h ds, List.map_cons, h]
theorem eqA_ints : ∀ ns ms : List Int, PyData.eqvAll (toPyA (ns.map .int)) (toPyA (ms.map .int)) = decide (ns = ms)
  | [], [] => by simp [toPyA, PyData.eqvAll]
  | [], m :: ms => by simp [toPyA, PyData.eqvAll]
  | n :: ns, [] => by simp [toPyA, PyData.eqvAll]
  | n :: ns, m :: ms => by
    rw [List.map_cons, List.map_cons, toPyA, toPyA, PyData.eqvAll, eqA_ints ns ms, toPy, toPy, PyData.eqv]
    by_cases h : n = m
    · subst h
      by_cases h2 : ns = ms
      · subst h2
        simp
      · simp [h2]
    · simp [h]
theorem eqD_ints (ns ms : List Int) : eqD (.tup (ns.map .int)) (.tup (ms.map .int)) = decide (ns = ms) := by
  unfold eqD
  rw [toPy, toPy, PyData.eqv]
  exact eqA_ints ns ms
end
end GT
namespace GT
open PySem PySem.Spec PyProof.Rows L2
/-! ### defs of the text by name -/
structure Cal (P : Program) (w : World) (K : Fg) (mg : Str → Option Value) (base : Heap) (CX : CXT) (k : Nat) (x : Str) (ps : List Str) (sp : Sp) : Prop where
  ex : ∃ (f : Addr) (fd : FuncData), FnOk P w K mg base CX k f fd ps sp ∧ mg x = some (.ref f) ∧ PySem.W.keepIn K (.ref f) = true ∧ Binds K fd ps []
/-- where a def of the text stands -/
def At (K : Fg) (mg : Str → Option Value) (x : Str) (st : Stmt) (ps : List Str) : Prop := ∃ (f : Addr) (fd : FuncData), Fun K x x st f fd ∧ mg x = some (.ref f) ∧ Binds K fd ps []
section
variable {X : Cx} {CX : CXT} {k j : Nat} {ps : List Str} {sp : Sp} {E : XK} {x m : Str} {p pos apos : Pos} {e o : Expr} {es : List Expr} {t : TA} {ta : TE} {C : Addr}
theorem Cal.pe (F : Cal X.prog X.w X.K X.mg X.base CX k x ps sp) (hr : Room j X.A) (hx : Passes CX X E) (ha : PA X (e :: es) t) (hk : k ≤ j := by decide) (hg : Gl X x := by rfl) (hdb : (x == ("__debug__" : Str)) = false := by decide)
    (he : starEach (e :: es) X.env = (false, eval e X.env) :: starEach es X.env := by rfl) (hpl : (backTo pos (starEach es X.env)).any (·.1) = false := by rfl) : PE X (.Call (.Name x p) (e :: es) [] pos) (tCall sp [] E t) := by
  obtain ⟨f, fd, F, g, kp, b⟩ := F.ex
  exact pe_call F (hr.mono hk) hg g kp b .nil hx ha hdb he hpl
/-- a class's method -/
structure CalM (P : Program) (w : World) (K : Fg) (mg : Str → Option Value) (base : Heap) (CX : CXT) (k : Nat) (C : Addr) (m : Str) (ps : List Str) (sp : Sp) : Prop where
  cls : Cls K C
  ex : ∃ (f : Addr) (fd : FuncData), FnOk P w K mg base CX k f fd ps sp ∧ Meth K C m f ∧ Binds K fd ps []
def AtM (K : Fg) (C : Addr) (m qual : Str) (st : Stmt) (ps : List Str) : Prop := Cls K C ∧ ∃ (f : Addr) (fd : FuncData), Fun K m qual st f fd ∧ Meth K C m f ∧ Binds K fd ps []
theorem CalM.pe {pl : Sem Bool} (F : CalM X.prog X.w X.K X.mg X.base CX k C m ps sp) (he : PE X o ta) (hr : Room j X.A) (hx : Passes CX X E) (ha : PA X (e :: es) t) (hk : k ≤ j := by decide)
    (hst : starEach (e :: es) X.env = (false, eval e X.env) :: starEach es X.env := by rfl) (hpl : (backTo pos (starEach es X.env)).any (·.1) = false := by rfl)
    (ht : eval (.Call (.Attribute o m apos) (e :: es) [] pos) X.env = (do
      let ov ← eval o X.env
      standAt apos.atName
      let (f, first) ← holding [ov] (getMethod ov m pl)
      callWith pos f first (backTo pos (starEach (e :: es) X.env)) (backToKw pos (keywordEach [] X.env))) := by rfl) : PE X (.Call (.Attribute o m apos) (e :: es) [] pos) (tMeth C m sp [] E ta t) := by
  obtain ⟨f, fd, G, hm, b⟩ := F.ex
  exact pe_meth he F.cls hm G (hr.mono hk) b .nil hx ha hst hpl ht
theorem CalM.pe0 {pl : Sem Bool} (F : CalM X.prog X.w X.K X.mg X.base CX k C m ps sp) (he : PE X o ta) (hr : Room j X.A) (hx : Passes CX X E) (hk : k ≤ j := by decide)
    (ht : eval (.Call (.Attribute o m apos) [] [] pos) X.env = (do
      let ov ← eval o X.env
      standAt apos.atName
      let (f, first) ← holding [ov] (getMethod ov m pl)
      callWith pos f first (backTo pos (starEach [] X.env)) (backToKw pos (keywordEach [] X.env))) := by rfl) : PE X (.Call (.Attribute o m apos) [] [] pos) (tMeth C m sp [] E ta tNil) := by
  obtain ⟨f, fd, G, hm, b⟩ := F.ex
  exact pe_meth0 he F.cls hm G (hr.mono hk) b .nil hx ht
end
section
variable {P : Program} {w : World} {K : Fg} {mg : Str → Option Value} {base : Heap}
theorem cal_ok {x : Str} {st : Stmt} {N ps : List Str} {k : Nat} {α : Type} {as : α → List As} {pre : α → Prop} {res : α → Rs} (T : At K mg x st ps) (S : FnScope N ps (defScope st)) (len : ∀ x, (as x).length = ps.length)
    (hbody : ∀ (f : Addr) (cdv : Value) (A : Around) (outer : List Env) (s : Shared) (B : Hp) (vs : List V) (R : VK) (E : XK) (y : α), Room k (A.deeper (envOfC x (defScope st) s.heap.objs.size f cdv)) → pre y → AsA K B vs (as y) → Rt K B R (res y) →
      ∃ t, PSs (cxOf CX0 P w K mg base N x (defScope st) f cdv A outer s B E).nox (defBody st) t ∧ t { nx := fun _ H' => R .non H', rt := R } (L2.start N vs) B) : Cal P w K mg base CX0 (k + 1) x ps (SpF K as pre res) := by
  obtain ⟨f, fd, F, g, b⟩ := T
  exact ⟨f, fd, fun_ok F S len (hbody f), g, F.kp, b⟩
end
/-- a class's __init__ -/
def Mi (K : Fg) (C : Addr) (qual : Str) (st : Stmt) (ps : List Str) : Prop := ∃ (f : Addr) (fd : FuncData), Fun K "__init__" qual st f fd ∧ Mk K C f ∧ Binds K fd ps []
/-- an own exception class -/
structure ExC (K : Fg) (mg : Str → Option Value) (x : Str) (C : Addr) : Prop where
  g : mg x = some (.ref C)
  x : PySem.W.excIn K C [.type "ValueError", .type "Exception", .type "BaseException", .type "object"] "ValueError.__new__" = true
  k : PySem.W.keepIn K (.ref C) = true
  b : PySem.W.subIn K (.ref C) (.type "BaseException") = some true
  t : PySem.W.typeIn K (.ref C) = some (.type "type")
  i : PySem.W.isClsIn K C = true
theorem pe_globI {X : Cx} {x : Str} {i : Int} {pos : Pos} (hg : Gl X x) (h : ∃ t, X.mg x = some (.int i t)) (hd : (x == ("__debug__" : Str)) = false := by decide) : PE X (.Name x pos) (tC (.int i)) := by
  obtain ⟨t, h⟩ := h
  exact pe_glob hg h ⟨t, rfl⟩ hd
theorem pe_globS {X : Cx} {x z : Str} {pos : Pos} (hg : Gl X x) (h : ∃ t, X.mg x = some (.str z t)) (hd : (x == ("__debug__" : Str)) = false := by decide) : PE X (.Name x pos) (tC (.str z)) := by
  obtain ⟨t, h⟩ := h
  exact pe_glob hg h ⟨t, rfl⟩ hd
/-- a law's promise -/
def SpLaw (K : Fg) : Sp := SpF K (fun ns : List Int => [.lst (ns.map .int)]) (fun ns => ns.length ≤ 63) (fun _ => .dat (.bl true))
theorem spLaw_of (K : Fg) (H : Hp) (a : Addr) (ns : List Int) (h : ns.length ≤ 63) (hS : SqL K H a (ns.map V.int)) : SpLaw K [.ref a] H (fun v _ => v = .bl true) fun _ _ _ => False :=
  ⟨ns, h, .cons ⟨a, ns.map V.int, rfl, hS, TpA.of_ints ns⟩ .nil, fun v H' e r => by
    cases r
    rfl⟩
theorem tup_of {K : Fg} {a : Addr} {o : Obj} {its : Array Value} {n : Nat} {xs : List V} {ds : List Dt} (l : K.lookup a = some o) (c : o.cls = .type "tuple") (d : o.data = .seq its n) (z : its.size ≤ sizeLine) (r : Vals xs its.toList) (t : ∀ H, TpA K H xs ds) : ∀ H, Tp K H (.ref a) (.tup ds) :=
  fun H => .tup (.inr ⟨o, its, n, l, c, d, z, r⟩) (t H)
theorem tup_two {K : Fg} {a : Addr} {od : Option Addr} {sl : Array (Option Value)} {n : Nat} {i j : Int} {t u : Tok} (l : K.lookup a = some ⟨.type "tuple", od, .seq #[.int i t, .int j u] n, sl⟩) : ∀ H, Tp K H (.ref a) (.tup [.int i, .int j]) :=
  tup_of (xs := [.int i, .int j]) l rfl rfl (by show 2 ≤ sizeLine; rw [sizeLine_eq]; omega) (.cons ⟨t, rfl⟩ (.cons ⟨u, rfl⟩ .nil)) fun H => .cons (.int i) (.cons (.int j) .nil)
end GT
namespace GT
open PySem PySem.Spec PyProof.Rows L2
/-- a statement, then the rest, a word between them -/
def tCut (t u : TS) : TS := fun D σ H => ∃ Mid : L2.St → Hp → Prop, t { D with nx := Mid } σ H ∧ ∀ σ' H', Mid σ' H' → u D σ' H'
theorem pss_cut {X : Cx} {st : Stmt} {rest : List Stmt} {t u : TS} (h1 : PS X st t) (h2 : PSs X rest u) : PSs X (st :: rest) (tCut t u) := by
  refine ⟨fun pins s σ H D I h => ?_⟩
  obtain ⟨Mid, h, k⟩ := h
  refine wpAny_execs_cons (thn (h1.run pins s σ H _ I h) fun f s1 q => ?_)
  cases f with
  | next =>
    obtain ⟨σ', H', I', q'⟩ := q
    exact h2.run pins s1 σ' H' D I' (k _ _ q')
  | brk => exact q
  | cont => exact q
  | ret v => exact q
section
variable {K : Fg} {B : Hp} {O : Own} {L : Sl} {te ta tb tx : TE} {t : TT} {D : Ends} {tu tw : TS} {g : TG}
theorem s_cutW (W : L2.St → Hp → Prop) (h : Nx K B O L (tu { D with nx := W })) (k : ∀ σ H, W σ H → tw D σ H) : Nx K B O L (tCut tu tw D) := fun σ H s => ⟨W, h σ H s, k⟩
theorem s_cut (O' : Own) (L' : Sl) (h : Nx K B O L (tu { D with nx := fun σ H => Sat K B O' L' σ H })) (k : Nx K B O' L' (tw D)) : Nx K B O L (tCut tu tw D) := s_cutW _ h k
theorem s_ok : Nx K B O L fun σ H => Sat K B O L σ H := fun σ H s => s
theorem s_okL {L' : Sl} (h : L = L') : Nx K B O L fun σ H => Sat K B O L' σ H := h ▸ s_ok
theorem s_okO {O' : Own} {L' : Sl} (h : O = O') (h' : L = L') : Nx K B O L fun σ H => Sat K B O' L' σ H := h' ▸ h ▸ s_ok
/-- forgetting slots, pointwise -/
inductive LeL : Sl → Sl → Prop
  | nil : LeL [] []
  | none {d : Option Dt} {l l' : Sl} : LeL l l' → LeL (none :: l) (d :: l')
  | same {d : Option Dt} {l l' : Sl} : LeL l l' → LeL (d :: l) (d :: l')
theorem LeL.len : ∀ {l l' : Sl}, LeL l l' → l.length = l'.length
  | _, _, .nil => rfl
  | _, _, .none h => congrArg (· + 1) (LeL.len h)
  | _, _, .same h => congrArg (· + 1) (LeL.len h)
theorem LeL.get : ∀ {l l' : Sl}, LeL l l' → ∀ (i : Nat) (d : Dt), l[i]? = some (some d) → l'[i]? = some (some d)
  | _, _, .nil, _, _, e => e
  | _, _, .none h, 0, _, e => by simp at e
  | _, _, .none h, i + 1, d, e => by
    have := LeL.get h i d (by simpa using e)
    simpa using this
  | _, _, .same h, 0, _, e => by simpa using e
  | _, _, .same h, i + 1, d, e => by
    have := LeL.get h i d (by simpa using e)
    simpa using this
theorem s_okW {L' : Sl} (h : LeL L' L) : Nx K B O L fun σ H => Sat K B O L' σ H := fun σ H s => s.weak h.len h.get
theorem s_weak {L' : Sl} {Q : L2.St → Hp → Prop} (h : LeL L' L) (k : Nx K B O L' Q) : Nx K B O L Q := nx_weak k h.len h.get
end
end GT
/-! ### GT2: slices, lists put together, a field, what is kept -/
namespace GT
open PySem PySem.Spec PyProof.Rows L2
section
variable {K : Fg} {B : Hp} {O : Own} {L : Sl} {te ta tb tx : TE} {t u : TT}
theorem Ev.isL {ds es : List Dt} (h : Ev K B O L te (.new (.lst ds))) (e : ds = es) : Ev K B O L te (.new (.lst es)) := e ▸ h
/-- a part of a slice -/
def EvO (K : Fg) (B : Hp) (O : Own) (L : Sl) (tl : TO) (o : Option Int) : Prop := ∀ σ H, Sat K B O L σ H → ∀ Q : Option Int → Hp → Prop, (∀ H2, Same H H2 → Q o H2) → tl σ H Q
theorem eo_none : EvO K B O L tNoPart none := fun σ H s Q q => q H (.refl H)
theorem eo_some {i : Int} (h : Ev K B O L te (.dat (.int i))) : EvO K B O L (tPart te) (some i) := fun σ H s Q q => h σ H s _ fun v H1 e1 r1 => by
  cases r1
  exact ⟨i, rfl, q H1 e1⟩
def cutD (ds : List Dt) (lo hi : Option Int) : List Dt := (ds.drop (HT.sIx ds.length 0 lo)).take (HT.sIx ds.length ds.length hi - HT.sIx ds.length 0 lo)
theorem TpA.cut {H : Hp} {vs : List V} {ds : List Dt} (h : TpA K H vs ds) (lo hi : Option Int) : TpA K H (cutV vs lo hi) (cutD ds lo hi) := by
  unfold cutV cutD
  rw [h.length]
  exact (h.drop _).take _
theorem ev_slL {tl th : TO} {r : Rs} {ds : List Dt} {lo hi : Option Int} (ha : Ev K B O L ta r) (hl : Ls K B O r ds) (h1 : EvO K B O L tl lo) (h2 : EvO K B O L th hi) : Ev K B O L (tSl (rSlL K) ta tl th) (.new (.lst (cutD ds lo hi))) := fun σ H s Q q =>
  ha σ H s _ fun x H1 e1 r1 => h1 σ H1 (s.same e1) _ fun H2 e2 => h2 σ H2 ((s.same e1).same e2) _ fun H3 e3 => by
    obtain ⟨a, vs, rfl, h4, h5⟩ := ((hl L σ H H1 x s e1 r1).same e2).same e3
    exact ⟨a, vs, rfl, h4, fun p hp => q _ _ (((e1.trans e2).trans e3).trans (Same.new hp)) ⟨p, rfl, ((e1.trans e2).trans e3).free hp, _, upd_same, (h5.cut lo hi).same (Same.new hp)⟩⟩
theorem ev_slT {tl th : TO} {ds : List Dt} {lo hi : Option Int} (ha : Ev K B O L ta (.dat (.tup ds))) (h1 : EvO K B O L tl lo) (h2 : EvO K B O L th hi) : Ev K B O L (tSl (rSlA K) ta tl th) (.dat (.tup (cutD ds lo hi))) := fun σ H s Q q =>
  ha σ H s _ fun x H1 e1 r1 => h1 σ H1 (s.same e1) _ fun H2 e2 => h2 σ H2 ((s.same e1).same e2) _ fun H3 e3 => by
    have r3 : Tp K H3 x (.tup ds) := Tp.same (e2.trans e3) r1
    cases r3 with
    | tup ht hd =>
      rename_i a xs
      refine ⟨a, xs, rfl, ht, fun hw => q _ H3 ((e1.trans e2).trans e3) (.tup ht ?_), fun _ p hp => q _ _ (((e1.trans e2).trans e3).trans (Same.new hp)) (.tup (.of upd_same) ((hd.cut lo hi).same (Same.new hp)))⟩
      have e : cutD ds lo hi = ds := by
        unfold cutD
        rw [← hd.length, hw.1, hw.2, List.drop_zero, Nat.sub_zero, hd.length, List.take_length]
      rw [e]
      exact hd
/-- prefixes, rests -/
theorem cutD_take {ds : List Dt} {k : Nat} (h : k ≤ ds.length) : cutD ds none (some (k : Int)) = ds.take k := by
  unfold cutD
  rw [HT.sIx_none, HT.sIx_nat, List.drop_zero, Nat.sub_zero, Nat.min_eq_left h]
theorem cutD_drop {ds : List Dt} {k : Nat} (h : k ≤ ds.length) : cutD ds (some (k : Int)) none = ds.drop k := by
  unfold cutD
  rw [HT.sIx_none, HT.sIx_nat, Nat.min_eq_left h]
  exact List.take_of_length_le (by rw [List.length_drop]; omega)
theorem cutD_takeG {ds : List Dt} {k : Int} (h : 0 ≤ k) : cutD ds none (some k) = ds.take k.toNat := by
  obtain ⟨n, rfl⟩ := Int.eq_ofNat_of_zero_le h
  unfold cutD
  rw [HT.sIx_none]
  show (ds.drop 0).take (HT.sIx ds.length ds.length (some (n : Int)) - 0) = _
  rw [HT.sIx_nat, List.drop_zero, Nat.sub_zero, Int.toNat_natCast]
  rcases Nat.le_total n ds.length with h | h
  · rw [Nat.min_eq_left h]
  · rw [Nat.min_eq_right h, List.take_of_length_le (Nat.le_refl _), List.take_of_length_le h]
theorem cutD_dropG {ds : List Dt} {k : Int} (h : 0 ≤ k) : cutD ds (some k) none = ds.drop k.toNat := by
  obtain ⟨n, rfl⟩ := Int.eq_ofNat_of_zero_le h
  unfold cutD
  rw [HT.sIx_none]
  show (ds.drop (HT.sIx ds.length 0 (some (n : Int)))).take _ = _
  rw [HT.sIx_nat, Int.toNat_natCast]
  rw [List.take_of_length_le (by rw [List.length_drop]; omega)]
  rcases Nat.le_total n ds.length with h | h
  · rw [Nat.min_eq_left h]
  · rw [Nat.min_eq_right h, List.drop_of_length_le (Nat.le_refl _), List.drop_of_length_le h]
/-- v is a list of ds that is tracked and not locked -/
def LmR (K : Fg) (H : Hp) (v : V) (ds : List Dt) : Prop := ∃ a vs, v = .ref a ∧ H a = some (.lst vs) ∧ TpA K H vs ds
theorem LmR.same {H H' : Hp} {v : V} {ds : List Dt} (e : Same H H') : LmR K H v ds → LmR K H' v ds := fun ⟨a, vs, h1, h2, h3⟩ => ⟨a, vs, h1, e _ _ h2, h3.same e⟩
theorem LmR.ls {H : Hp} {v : V} {ds : List Dt} : LmR K H v ds → LsR K H v ds := fun ⟨a, vs, h1, h2, h3⟩ => ⟨a, vs, h1, .of h2, h3⟩
def Lm (K : Fg) (B : Hp) (O : Own) (r : Rs) (ds : List Dt) : Prop := ∀ L σ H H2 v, Sat K B O L σ H → Same H H2 → RsR K H H2 v r → LmR K H2 v ds
theorem Lm.new {ds : List Dt} : Lm K B O (.new (.lst ds)) ds := fun _ _ _ _ _ _ _ ⟨p, h1, _, vs, h3, h4⟩ => ⟨p, vs, h1, h3, h4⟩
theorem Lm.own {j : Nat} {a : Addr} {ds : List Dt} (h : O[j]? = some (a, .lst ds)) : Lm K B O (.dat (.adr a)) ds := fun _ _ _ _ _ s e r => by
  obtain ⟨vs, h1, h2⟩ := ((s.same e).at h).2
  cases r
  exact ⟨a, vs, rfl, h1, h2⟩
theorem Lm.base {a : Addr} {ds : List Dt} (h : LmR K B (.ref a) ds) : Lm K B O (.dat (.adr a)) ds := fun _ _ _ _ _ s e r => by
  cases r
  exact (h.same s.ex).same e
theorem Lm.ls {r : Rs} {ds : List Dt} (h : Lm K B O r ds) : Ls K B O r ds := fun L σ H H2 v s e x => (h L σ H H2 v s e x).ls
/-- xs + ys -/
theorem ev_cat {x y : Rs} {ds es : List Dt} (ha : Ev K B O L ta x) (hx : Lm K B O x ds) (hb : Ev K B O L tb y) (hy : Lm K B O y es) (hz : ds.length + es.length ≤ 100000) : Ev K B O L (tOp rCat ta tb) (.new (.lst (ds ++ es))) := fun σ H s Q q =>
  ha σ H s _ fun v H1 e1 r1 => hb σ H1 (s.same e1) _ fun u H2 e2 r2 => by
    obtain ⟨a, vs, rfl, h1, h2⟩ := (hx L σ H H1 v s e1 r1).same e2
    obtain ⟨b, ws, rfl, h3, h4⟩ := hy L σ H1 H2 u (s.same e1) e2 r2
    exact ⟨a, b, vs, ws, rfl, rfl, h1, h3, by rw [h2.length, h4.length, sizeLine_eq]; omega, fun p hp => q _ _ ((e1.trans e2).trans (Same.new hp)) ⟨p, rfl, (e1.trans e2).free hp, _, upd_same, (h2.append h4).same (Same.new hp)⟩⟩
theorem TpA.rep {H : Hp} {vs : List V} {ds : List Dt} (h : TpA K H vs ds) : ∀ k : Nat, TpA K H (List.replicate k vs).flatten (List.replicate k ds).flatten
  | 0 => .nil
  | k + 1 => by
    rw [List.replicate_succ, List.replicate_succ, List.flatten_cons, List.flatten_cons]
    exact h.append (TpA.rep h k)
/-- xs * k -/
theorem ev_rep {x : Rs} {ds : List Dt} {k : Int} (ha : Ev K B O L ta x) (hx : Lm K B O x ds) (hb : Ev K B O L tb (.dat (.int k))) (h1 : -1000 ≤ k) (h2 : k ≤ 1000) (hz : ds.length ≤ 1000) : Ev K B O L (tOp rRep ta tb) (.new (.lst (List.replicate k.toNat ds).flatten)) := fun σ H s Q q =>
  ha σ H s _ fun v H1 e1 r1 => hb σ H1 (s.same e1) _ fun u H2 e2 r2 => by
    obtain ⟨a, vs, rfl, h3, h4⟩ := (hx L σ H H1 v s e1 r1).same e2
    cases r2
    have hk : k.toNat ≤ 1000 := by omega
    have hm : vs.length * k.toNat ≤ 1000 * 1000 := Nat.mul_le_mul (by rw [h4.length]; exact hz) hk
    exact ⟨a, k, vs, rfl, rfl, h3, by omega, by omega, by rw [sizeLine_eq]; omega, fun p hp => q _ _ ((e1.trans e2).trans (Same.new hp)) ⟨p, rfl, (e1.trans e2).free hp, _, upd_same, (h4.rep _).same (Same.new hp)⟩⟩
theorem rep_one {α : Type} (d : α) : ∀ k : Nat, (List.replicate k [d]).flatten = List.replicate k d
  | 0 => rfl
  | k + 1 => by
    rw [List.replicate_succ, List.flatten_cons, rep_one d k]
    rfl
theorem atI_nat' {α : Type} {enc : α → Dt} {xs : List α} {k : Nat} {y : α} (h : xs[k]? = some y) : atI (xs.map enc) (k : Int) = some (enc y) := by
  unfold atI
  have hk : k < xs.length := (List.getElem?_eq_some_iff.mp h).1
  rw [ixN_nat (by rw [List.length_map]; exact hk)]
  show (xs.map enc)[k]? = _
  rw [List.getElem?_map, h]
  rfl
end
/-! ### isinstance of a tracked tuple: any; None tests -/
section
variable {K : Fg} {B : Hp} {O : Own} {L : Sl} {te ta tb tx : TE} {t u : TT}
def isNonD : Dt → Bool
  | .non => true
  | _ => false
theorem Tp.isNon {H : Hp} {x : V} {d : Dt} (h : Tp K H x d) : decide (x = V.non) = isNonD d := by
  cases h <;> simp [isNonD]
theorem ev_isN {d : Dt} (ha : Ev K B O L ta (.dat d)) : Ev K B O L (tOp (fun x y H Q => y = V.non ∧ Q (.bl (decide (x = V.non))) H) ta (tC .non)) (.dat (.bl (isNonD d))) := fun σ H s Q q =>
  ha σ H s _ fun x H1 e1 r1 => by
    have r1' : Tp K H1 x d := r1
    exact ⟨rfl, r1'.isNon ▸ q _ H1 e1 (.bl _)⟩
theorem ev_notN {d : Dt} (ha : Ev K B O L ta (.dat d)) : Ev K B O L (tOp (fun x y H Q => y = V.non ∧ Q (.bl (!decide (x = V.non))) H) ta (tC .non)) (.dat (.bl (!isNonD d))) := fun σ H s Q q =>
  ha σ H s _ fun x H1 e1 r1 => by
    have r1' : Tp K H1 x d := r1
    exact ⟨rfl, r1'.isNon ▸ q _ H1 e1 (.bl _)⟩
end
end GT
namespace GT
open PySem PySem.Spec PyProof.Rows L2
theorem s_okO' {K : Fg} {B : Hp} {O O' : Own} {L L' : Sl} (h : O = O') (h' : LeL L' L) : Nx K B O L fun σ H => Sat K B O' L' σ H := h ▸ s_okW h'
end GT
namespace GT
open PySem PySem.Spec PyProof.Rows L2
section
variable {K : Fg} {B : Hp} {O : Own} {L : Sl} {te ta tb tx : TE} {t : TT} {D : Ends} {tu tw : TS} {g : TG}
/-- for over a list, with a plain invariant beside the frame -/
theorem s_forI {α : Type} {enc : α → Dt} {ys : List α} {a : Addr} {tl : TE} (h : Ev K B O L tl (.dat (.adr a))) (O' : List α → Own) (L1 : List α → α → Sl) (L0 : List α → Sl) (I : List α → Prop) (hl : ∀ pre, Ls K B (O' pre) (.dat (.adr a)) (ys.map enc))
    (hi : I []) (h0 : Nx K B O L fun σ H => Sat K B (O' []) (L0 []) σ H) (hg : ∀ pre y, Tg K B (O' pre) (L0 pre) g (enc y) (L1 pre y))
    (hs : ∀ pre y post, ys = pre ++ y :: post → I pre → Nx K B (O' pre) (L1 pre y) (tu { D with nx := fun σ H => I (pre ++ [y]) ∧ Sat K B (O' (pre ++ [y])) (L0 (pre ++ [y])) σ H, ct := fun σ H => I (pre ++ [y]) ∧ Sat K B (O' (pre ++ [y])) (L0 (pre ++ [y])) σ H, bk := D.nx }))
    (hd : I ys → Nx K B (O' ys) (L0 ys) D.nx) : Nx K B O L (tFor (iList K tl) g tu D) :=
  s_forW (enc := enc) h (fun pre σ H => I pre ∧ Sat K B (O' pre) (L0 pre) σ H) (fun pre σ H w => hl pre (L0 pre) σ H H _ w.2 (.refl H) (.adr a)) (fun σ H s => ⟨hi, h0 σ H s⟩)
    (fun pre y post e σ H v w r => hg pre y σ H v w.2 r _ fun σ' s' => hs pre y post e w.1 σ' H s') fun σ H w => hd w.1 σ H w.2
theorem s_okI {I : Prop} {O' : Own} {L' : Sl} (hi : I) (h : Nx K B O L fun σ H => Sat K B O' L' σ H) : Nx K B O L fun σ H => I ∧ Sat K B O' L' σ H := fun σ H s => ⟨hi, h σ H s⟩
/-- for over range(n), with a plain invariant beside the frame -/
theorem s_forRI {n : Nat} {ta : TA} {j : Nat} (h : EvD K B O L ta [.int n]) (hn : n ≤ 100000) (O' : Nat → Own) (L0 : Nat → Sl) (I : Nat → Prop) (hi : I 0) (h0 : Nx K B O L fun σ H => Sat K B (O' 0) (L0 0) σ H)
    (hs : ∀ i, i < n → I i → Nx K B (O' i) ((L0 i).set j (some (.int i))) (tu { D with nx := fun σ H => I (i + 1) ∧ Sat K B (O' (i + 1)) (L0 (i + 1)) σ H, ct := fun σ H => I (i + 1) ∧ Sat K B (O' (i + 1)) (L0 (i + 1)) σ H, bk := D.nx }))
    (hd : I n → Nx K B (O' n) (L0 n) D.nx) : Nx K B O L (tFor (iRng1 ta) (gName j) tu D) :=
  s_forR h hn (fun i σ H => I i ∧ Sat K B (O' i) (L0 i) σ H) (fun σ H s => ⟨hi, h0 σ H s⟩) (fun i hi' σ H w => hs i hi' w.1 _ H (w.2.set (.int _))) fun σ H w => hd w.1 σ H w.2
end
end GT
/-! ### GT3: instances, dicts of pairs, made things, methods -/
namespace GT
open PySem PySem.Spec PyProof.Rows L2
section
variable {K : Fg} {B : Hp} {O : Own} {L : Sl} {te ta tb tx td tv : TE} {t : TT} {D : Ends} {tu tw : TS} {g : TG}
/-- t + u, tuples -/
theorem ev_catT {ds es : List Dt} (ha : Ev K B O L ta (.dat (.tup ds))) (hb : Ev K B O L tb (.dat (.tup es))) (hz : ds.length + es.length ≤ 100000) : Ev K B O L (tOp (rCatA K) ta tb) (.dat (.tup (ds ++ es))) :=
  ev_op ha hb fun σ H s x y hx hy Q q => by
    cases hx with
    | tup h1 h2 =>
      cases hy with
      | tup h3 h4 =>
        rename_i a xs b ys
        refine ⟨a, b, xs, ys, rfl, rfl, h1, h3, by rw [h2.length, h4.length, sizeLine_eq]; omega, fun e => ?_, fun _ e => ?_, fun _ _ p hp => q _ _ (Same.new hp) (.tup (.of upd_same) ((h2.append h4).same (Same.new hp)))⟩
        · subst e
          cases h2
          exact q _ H (.refl H) (.tup h3 h4)
        · subst e
          cases h4
          exact q _ H (.refl H) (.tup h1 (by rw [List.append_nil]; exact h2))
/-- x in xs, data at any depth -/
theorem ev_inDx {d : Dt} {r : Rs} {ds : List Dt} (ha : Ev K B O L ta (.dat d)) (hb : Ev K B O L tb r) (hl : Ls K B O r ds) (h1 : okD d = true) (h2 : okL ds = true) : Ev K B O L (tOp (rInD K) ta tb) (.dat (.bl ((toPyA ds).any fun z => PyData.eqv z (toPy d)))) := fun σ H s Q q =>
  ha σ H s _ fun x H1 e1 r1 => hb σ H1 (s.same e1) _ fun y H2 e2 r2 => by
    have a1 := Bool.and_eq_true_iff.mp h1
    have a2 := Bool.and_eq_true_iff.mp h2
    exact ⟨_, _, (Tp.same e2 r1).dp a1.1, (hl L σ H1 H2 y (s.same e1) e2 r2).dp a2.1, a1.2, a2.2, q _ H2 (e1.trans e2) (.bl _)⟩
/-! #### fields -/
theorem FsR.put {H : Hp} {f : Str} {v : V} {d : Dt} (r : Tp K H v d) : ∀ {gs : List (Str × V)} {fs : List (Str × Dt)}, FsR K H gs fs → FsR K H (putF f v gs) (putD f d fs)
  | _, _, .nil => .cons r .nil
  | _, _, .cons (f := g) (gs := gs) (fs := fs) q t => by
    by_cases h : g = f
    · rw [putF, putD, if_pos h, if_pos h]
      exact .cons r t
    · rw [putF, putD, if_neg h, if_neg h]
      exact .cons q (FsR.put r t)
/-- o.f of an instance in the ground -/
theorem ev_fldB {a C dx : Addr} {gs : List (Str × V)} {f : Str} {v : V} {d : Dt} (ho : Ev K B O L ta (.dat (.adr a))) (hi : B a = some (.ins C dx gs)) (c : Cls K C) (n : NoAttr K C f) (l : gs.lookup f = some v) (hd : Tp K B v d) : Ev K B O L (tFld K ta f) (.dat d) := fun σ H s Q q =>
  ho σ H s _ fun x H1 e1 r1 => by
    cases r1
    have s1 := s.same e1
    exact ⟨a, C, dx, gs, v, rfl, s1.ex _ _ hi, c, n, l, q v H1 e1 (Tp.same s1.ex hd)⟩
/-- .. of an own instance -/
theorem ev_fldO {j : Nat} {a C dx : Addr} {fs : List (Str × Dt)} {f : Str} {d : Dt} (ho : Ev K B O L ta (.dat (.adr a))) (hj : O[j]? = some (a, .ins C dx fs)) (c : Cls K C) (n : NoAttr K C f) (l : fs.lookup f = some d) : Ev K B O L (tFld K ta f) (.dat d) := fun σ H s Q q =>
  ho σ H s _ fun x H1 e1 r1 => by
    cases r1
    obtain ⟨gs, h1, h2⟩ := ((s.same e1).at hj).2
    obtain ⟨v, h3, h4⟩ := h2.look l
    exact ⟨a, C, dx, gs, v, rfl, h1, c, n, h3, q v H1 e1 h4⟩
/-- self.f = e -/
theorem s_fld {j : Nat} {a C dx : Addr} {fs : List (Str × Dt)} {f : Str} {d : Dt} (hv : Ev K B O L tv (.dat d)) (ho : Ev K B O L ta (.dat (.adr a))) (hj : O[j]? = some (a, .ins C dx fs)) (c : Cls K C) (n : NoAttr K C f) (hl : fs.length < 1000)
    (k : Nx K B (O.set j (a, .ins C dx (putD f d fs))) L D.nx) : Nx K B O L (sFld K ta tv f D) := fun σ H s =>
  hv σ H s _ fun v H1 e1 r1 => ho σ H1 (s.same e1) _ fun x H2 e2 r2 => by
    cases r2
    have s2 := (s.same e1).same e2
    obtain ⟨gs, h1, h2⟩ := (s2.at hj).2
    have m : Mut (H2 a) := by rw [h1]; trivial
    exact ⟨a, C, dx, gs, rfl, h1, c, n, by rw [h2.len]; exact hl, k σ _ (s2.mut hj m ⟨_, upd_same, (h2.put (Tp.same e2 r1)).keep (.mut m)⟩)⟩
theorem s_fldN {j : Nat} {a C dx : Addr} {fs : List (Str × Dt)} {f : Str} {ob : Ob} (hv : Ev K B O L tv (.new ob)) (ho : Ev K B O L ta (.dat (.adr a))) (hj : O[j]? = some (a, .ins C dx fs)) (c : Cls K C) (n : NoAttr K C f) (hl : fs.length < 1000)
    (k : ∀ p, Nx K B ((O ++ [(p, ob)]).set j (a, .ins C dx (putD f (.adr p) fs))) L D.nx) : Nx K B O L (sFld K ta tv f D) := fun σ H s =>
  hv σ H s _ fun v H1 e1 ⟨p, hv', hn, r1⟩ => by
    subst hv'
    have s1 := s.addOwn e1 hn r1
    refine ho σ H1 (s.same e1) _ fun x H2 e2 r2 => ?_
    cases r2
    have s2 := s1.same e2
    have hj2 : (O ++ [(p, ob)])[j]? = some (a, .ins C dx fs) := by
      rw [List.getElem?_append_left (List.getElem?_eq_some_iff.mp hj).1]
      exact hj
    obtain ⟨gs, h1, h2⟩ := (s2.at hj2).2
    have m : Mut (H2 a) := by rw [h1]; trivial
    exact ⟨a, C, dx, gs, rfl, h1, c, n, by rw [h2.len]; exact hl, k p σ _ (s2.mut hj2 m ⟨_, upd_same, (h2.put (Tp.adr p)).keep (.mut m)⟩)⟩
/-! #### dicts whose keys are pairs -/
def kk (p : Int × Int) : List Key := [Sum.inl p.1, Sum.inl p.2]
def kvsOf (ps : List (Int × Int)) : List (List Key × V) := ps.map fun p => (kk p, V.bl true)
def addP (ps : List (Int × Int)) (p : Int × Int) : List (Int × Int) := if p ∈ ps then ps else ps ++ [p]
theorem kk_inj {p q : Int × Int} (h : kk p = kk q) : p = q := by
  unfold kk at h
  injection h with h1 h2
  injection h2 with h2 _
  injection h1 with h1
  injection h2 with h2
  exact Prod.ext h1 h2
theorem kvs_any (p : Int × Int) : ∀ ps : List (Int × Int), ((kvsOf ps).any fun kv => decide (kv.1 = kk p)) = decide (p ∈ ps)
  | [] => rfl
  | q :: ps => by
    show (decide (kk q = kk p) || ((kvsOf ps).any fun kv => decide (kv.1 = kk p))) = _
    rw [kvs_any p ps]
    by_cases h : p = q
    · subst h
      simp
    · have h' : ¬ kk q = kk p := fun z => h (kk_inj z).symm
      simp [h, h']
theorem kvs_some (p : Int × Int) (ps : List (Int × Int)) : (valV (kvsOf ps) (kk p)).isSome = decide (p ∈ ps) := by rw [← valV_any, kvs_any]
theorem kvs_put (p : Int × Int) (ps : List (Int × Int)) : putK (kvsOf ps) (kk p) (V.bl true) = kvsOf (addP ps p) := by
  unfold putK addP
  rw [kvs_any]
  by_cases h : p ∈ ps
  · rw [if_pos (decide_eq_true h), if_pos h]
    unfold kvsOf
    rw [List.map_map]
    refine List.map_congr_left fun q _ => ?_
    show (if kk q = kk p then (kk q, V.bl true) else (kk q, V.bl true)) = _
    split <;> rfl
  · rw [if_neg (by rw [decide_eq_false h]; decide), if_neg h]
    unfold kvsOf
    rw [List.map_append]
    rfl
theorem kvs_keys (ps : List (Int × Int)) : (kvsOf ps).map (·.1) = ps.map kk := by
  unfold kvsOf
  rw [List.map_map]
  rfl
theorem two_ints {H : Hp} {vs : List V} {i j : Int} (h : TpA K H vs [.int i, .int j]) : vs = [V.int i, V.int j] := h.ints [i, j]
/-- (i, j) in d -/
theorem ev_din {tl : TA} {i j : Int} {d : Addr} {ps : List (Int × Int)} (h : EvD K B O L tl [.int i, .int j]) (ho : Ev K B O L td (.dat (.adr d))) (hd : ∀ L σ H, Sat K B O L σ H → H d = some (.dT (kvsOf ps))) : Ev K B O L (tDIn (tTup tl) td) (.dat (.bl (decide ((i, j) ∈ ps)))) := fun σ H s Q q =>
  h σ H s _ fun vs H1 e1 r1 => by
    have r2 := r1.dats
    have e := two_ints r2
    subst e
    refine ⟨by rw [sizeLine_eq]; show 2 ≤ _; omega, fun p hp => ?_⟩
    have e2 : Same H1 (upd H1 p (.tup [.int i, .int j])) := Same.new hp
    refine ho σ _ ((s.same e1).same e2) _ fun x H2 e3 r3 => ?_
    cases r3
    have s3 := ((s.same e1).same e2).same e3
    refine ⟨d, _, rfl, DGet.t (k := kk (i, j)) (hd L σ H2 s3) (e3 _ _ upd_same), ?_⟩
    rw [kvs_some]
    exact q _ H2 ((e1.trans e2).trans e3) (.bl _)
/-- d[(i, j)] = True -/
theorem s_dput {tl : TA} {n : Nat} {i j : Int} {d : Addr} {ps : List (Int × Int)} (hv : Ev K B O L tv (.dat (.bl true))) (ho : Ev K B O L td (.dat (.adr d))) (hj : O[n]? = some (d, .raw (.dT (kvsOf ps)))) (h : EvD K B O L tl [.int i, .int j]) (hz : ps.length < 100000)
    (k : Nx K B (O.set n (d, .raw (.dT (kvsOf (addP ps (i, j)))))) L D.nx) : Nx K B O L (sDPut td (tTup tl) tv D) := fun σ H s =>
  hv σ H s _ fun v H1 e1 r1 => ho σ H1 (s.same e1) _ fun x H2 e2 r2 => h σ H2 ((s.same e1).same e2) _ fun vs H3 e3 r3 => by
    cases r1
    cases r2
    have e := two_ints r3.dats
    subst e
    refine ⟨by rw [sizeLine_eq]; show 2 ≤ _; omega, fun p hp => ?_⟩
    have e4 : Same H3 (upd H3 p (.tup [.int i, .int j])) := Same.new hp
    have s4 := (((s.same e1).same e2).same e3).same e4
    obtain ⟨h5, m5⟩ := (s4.at hj).2
    have m : Mut (upd H3 p (.tup [.int i, .int j]) d) := by rw [h5]; exact m5
    refine ⟨d, _, rfl, DPut.t (k := kk (i, j)) (v := .bl true) h5 upd_same (by unfold kvsOf; rw [List.length_map, sizeLine_eq]; omega), ?_⟩
    rw [kvs_put]
    exact k σ _ (s4.mut hj m ⟨upd_same, trivial⟩)
/-! #### made things -/
/-- all but the own objects -/
def Keep2 (O : Own) (H B' : Hp) : Prop := ∀ b o, H b = some o → b ∉ O.map Prod.fst → B' b = some o
theorem Sat.ground2 {σ : L2.St} {H : Hp} (s : Sat K B O L σ H) : ∃ B' : Hp, Same B B' ∧ Sat K B' O L σ H ∧ Keep2 O H B' := by
  let B' : Hp := fun b => if b ∈ O.map Prod.fst then none else H b
  have nin : ∀ b o, B b = some o → b ∉ O.map Prod.fst := fun b o e hm => by
    obtain ⟨q, hq, rfl⟩ := List.mem_map.mp hm
    rw [(s.own q hq).1] at e
    cases e
  refine ⟨B', fun b o e => ?_, ⟨fun b o e => ?_, fun p hp => ⟨?_, (s.own p hp).2⟩, s.nd, s.len, s.loc⟩, fun b o e n => ?_⟩
  · show (if b ∈ O.map Prod.fst then none else H b) = some o
    rw [if_neg (nin b o e)]
    exact s.ex b o e
  · have e' : (if b ∈ O.map Prod.fst then none else H b) = some o := e
    by_cases hb : b ∈ O.map Prod.fst
    · rw [if_pos hb] at e'
      cases e'
    · rw [if_neg hb] at e'
      exact e'
  · show (if p.1 ∈ O.map Prod.fst then none else H p.1) = none
    rw [if_pos (List.mem_map.mpr ⟨p, hp, rfl⟩)]
  · show (if b ∈ O.map Prod.fst then none else H b) = some o
    rw [if_neg n]
    exact e
theorem RsR.dropLst {H2 : Hp} {a : Addr} {φ : Mono} (h : φ.p H2 a) {σ : L2.St} (s : Sat K B O L σ H2) (hO : O.all (fun x => match x.2 with | .lst _ => true | _ => false) = true) {B' : Hp} (e : Keep2 O H2 B') : φ.p B' a :=
  φ.up _ _ a (fun b o hb => by
    have hb2 : H2 b = some o := by
      unfold noLst at hb
      cases hh : H2 b with
      | none => rw [hh] at hb; cases hb
      | some u =>
        rw [hh] at hb
        cases u <;> first | exact hb | cases hb
    refine e b o hb2 fun hm => ?_
    obtain ⟨q, hq, rfl⟩ := List.mem_map.mp hm
    have hl := List.all_eq_true.mp hO q hq
    have ho := (s.own q hq).2
    cases hq2 : q.2 with
    | lst ds =>
      rw [hq2] at ho
      obtain ⟨vs, h1, _⟩ := ho
      unfold noLst at hb
      rw [h1] at hb
      cases hb
    | ins C dx fs => rw [hq2] at hl; cases hl
    | raw o' => rw [hq2] at hl; cases hl) (φ.nl _ _ h)
/-- x = a made thing: it stands in the ground from now on -/
theorem s_asgObj {i : Nat} {φ : Mono} (h : Ev K B O L te (.obj φ)) (hO : O.all (fun x => match x.2 with | .lst _ => true | _ => false) = true) (k : ∀ B' a, Same B B' → φ.p B' a → Nx K B' O (L.set i (some (.adr a))) D.nx) : Nx K B O L (tAsg te (gName i) D) := fun σ H s =>
  h σ H s _ fun v H1 e1 ⟨a, hv, hp⟩ => by
    subst hv
    obtain ⟨B', e', s', kp⟩ := (s.same e1).ground2
    exact k B' a e' (RsR.dropLst hp (s.same e1) hO kp) _ H1 (s'.set (.adr a))
/-- is handed on -/
theorem AsOf.obj {φ : Mono} {ψ : Hp → V → Prop} (h : ∀ H a, φ.p H a → ψ H (.ref a)) : AsOf K B O (.obj φ) (.any ψ) := fun L σ H H2 v s e ⟨a, hv, hp⟩ => by
  subst hv
  exact h _ _ hp
theorem AsOf.objB {φ : Mono} {a : Addr} (h : φ.p B a) : AsOf K B O (.dat (.adr a)) (.any fun H v => ∃ b, v = .ref b ∧ φ.p H b) := fun L σ H H2 v s e r => by
  cases r
  exact ⟨a, rfl, φ.up _ _ _ (s.ex.trans e) h⟩
theorem AsOf.lm {r : Rs} {ds : List Dt} (h : Lm K B O r ds) : AsOf K B O r (.any fun H v => LmR K H v ds) := fun L σ H H2 v s e x => h L σ H H2 v s e x
/-- what __init__ promises -/
def SpInit (K : Fg) (C : Addr) {α : Type} (as : α → List As) (pre : α → Prop) (φ : α → Mono) : Sp := fun vs H Q _ => ∃ x slf dx ws B, pre x ∧ vs = .ref slf :: ws ∧ B slf = none ∧ Same B H ∧ H slf = some (.ins C dx []) ∧ AsA K B ws (as x) ∧
  ∀ H', Same B H' → (φ x).p H' slf → Q .non H'
theorem ev_make {C : Addr} {α : Type} {as : α → List As} {pre : α → Prop} {φ : α → Mono} {E : XK} {tl : TA} {rs : List Rs} (x : α) (h : EvA K B O L tl rs) (hp : pre x) (ha : AsAll K B O rs (as x)) : Ev K B O L (tMake C (SpInit K C as pre φ) [] E tl) (.obj (φ x)) := fun σ H s Q q =>
  h σ H s _ fun vs H1 e1 r1 y dx hy hdx hne => by
    have e2 : Same H1 (upd (upd H1 dx (.own y)) y (.ins C dx [])) := (Same.new hdx).trans (Same.new (by rw [upd_ne (fun z => hne z.symm)]; exact hy))
    show SpInit K C as pre φ (.ref y :: (vs ++ [])) _ _ E
    rw [List.append_nil]
    exact ⟨x, y, dx, vs, H1, hp, rfl, hy, e2, upd_same, ha.run s e1 r1, fun H' e3 h3 => ⟨rfl, q _ H' (e1.trans e3) ⟨y, rfl, h3⟩⟩⟩
theorem sat_startO {N : List Str} {vs : List V} {ds : List Dt} {H : Hp} {O : Own} (h : TpA K H vs ds) (hN : ds.length ≤ N.length) (ex : Same B H) (own : ∀ p ∈ O, B p.1 = none ∧ ObR K H p.1 p.2) (nd : (O.map Prod.fst).Nodup) : Sat K B O (ds.map some ++ List.replicate (N.length - ds.length) none) (L2.start N vs) H :=
  let s0 := sat_start h hN
  ⟨ex, own, nd, s0.len, s0.loc⟩
theorem body_atO {N : List Str} {vs : List V} (ds : List Dt) {H : Hp} {O : Own} {L : Sl} {P : L2.St → Hp → Prop} (h : TpA K H vs ds) (ex : Same B H) (own : ∀ p ∈ O, B p.1 = none ∧ ObR K H p.1 p.2) (nd : (O.map Prod.fst).Nodup) (hn : Nx K B O L P) (hN : Nat.ble ds.length N.length = true := by rfl)
    (hL : ds.map some ++ List.replicate (N.length - ds.length) none = L := by rfl) : P (L2.start N vs) H :=
  hn _ _ (hL ▸ sat_startO h (Nat.le_of_ble_eq_true hN) ex own nd)
/-! #### methods -/
theorem ev_methB {α : Type} {as : α → List As} {pre : α → Prop} {res : α → Rs} {C : Addr} {m : Str} {tr : TA} {rs : List Rs} {E : XK} {a dx : Addr} {gs : List (Str × V)} (x : α) (ho : Ev K B O L ta (.dat (.adr a))) (hi : B a = some (.ins C dx gs)) (hm : gs.lookup m = none) (h : EvA K B O L tr rs) (hp : pre x) (ha : AsAll K B O (.dat (.adr a) :: rs) (as x)) :
    Ev K B O L (tMeth C m (SpF K as pre res) [] E ta tr) (res x) :=
  ev_meth x ho (fun L σ H H2 v s e r => by
    cases r
    exact ⟨a, dx, gs, rfl, (s.same e).ex _ _ hi, hm⟩) h hp ha
end
end GT
namespace GT
open PySem PySem.Spec PyProof.Rows L2
section
variable {P : Program} {w : World} {K : Fg} {mg : Str → Option Value} {base : Heap}
theorem calm_ok {C : Addr} {m qual : Str} {st : Stmt} {N ps : List Str} {k : Nat} {α : Type} {as : α → List As} {pre : α → Prop} {res : α → Rs} (T : AtM K C m qual st ps) (S : FnScope N ps (defScope st)) (len : ∀ x, (as x).length = ps.length)
    (hbody : ∀ (f : Addr) (cdv : Value) (A : Around) (outer : List Env) (s : Shared) (B : Hp) (vs : List V) (R : VK) (E : XK) (y : α), Room k (A.deeper (envOfC qual (defScope st) s.heap.objs.size f cdv)) → pre y → AsA K B vs (as y) → Rt K B R (res y) →
      ∃ t, PSs (cxOf CX0 P w K mg base N qual (defScope st) f cdv A outer s B E).nox (defBody st) t ∧ t { nx := fun _ H' => R .non H', rt := R } (L2.start N vs) B) : CalM P w K mg base CX0 (k + 1) C m ps (SpF K as pre res) := by
  obtain ⟨c, f, fd, F, M, b⟩ := T
  refine ⟨c, f, fd, ?_, M, b⟩
  exact F.ok S (fun vs H Q E ⟨y, _, h, _⟩ => h.length.trans (len y)) fun cdv A outer s H vs Q E hr ⟨y, hp, ha, hq⟩ => hbody f cdv A outer s H vs Q E y hr hp ha hq
structure CalI (P : Program) (w : World) (K : Fg) (mg : Str → Option Value) (base : Heap) (CX : CXT) (k : Nat) (C : Addr) (ps : List Str) (sp : Sp) : Prop where
  ex : ∃ (f : Addr) (fd : FuncData), FnOk P w K mg base CX k f fd ps sp ∧ Mk K C f ∧ Binds K fd ps []
theorem cali_ok {C : Addr} {qual : Str} {st : Stmt} {N ps : List Str} {k : Nat} {α : Type} {as : α → List As} {pre : α → Prop} {φ : α → Mono} (T : Mi K C qual st ps) (S : FnScope N ps (defScope st)) (len : ∀ x, (as x).length + 1 = ps.length)
    (hbody : ∀ (f : Addr) (cdv : Value) (A : Around) (outer : List Env) (s : Shared) (B H : Hp) (slf dx : Addr) (ws : List V) (R : VK) (E : XK) (y : α), Room k (A.deeper (envOfC qual (defScope st) s.heap.objs.size f cdv)) → pre y → B slf = none → Same B H → H slf = some (.ins C dx []) → AsA K B ws (as y) →
      (∀ H', Same B H' → (φ y).p H' slf → R .non H') →
      ∃ t, PSs (cxOf CX0 P w K mg base N qual (defScope st) f cdv A outer s H E).nox (defBody st) t ∧ t { nx := fun _ H' => R .non H', rt := R } (L2.start N (.ref slf :: ws)) H) : CalI P w K mg base CX0 (k + 1) C ps (SpInit K C as pre φ) := by
  obtain ⟨f, fd, F, M, b⟩ := T
  refine ⟨f, fd, ?_, M, b⟩
  refine F.ok S (fun vs H Q E ⟨y, slf, dx, ws, B, _, hv, _, _, _, h, _⟩ => ?_) fun cdv A outer s H vs Q E hr ⟨y, slf, dx, ws, B, hp, hv, h1, h2, h3, ha, hq⟩ => ?_
  · rw [hv, List.length_cons, h.length]
    exact len y
  · subst hv
    exact hbody f cdv A outer s B H slf dx ws Q E y hr hp h1 h2 h3 ha hq
end
section
variable {X : Cx} {CX : CXT} {k j : Nat} {ps : List Str} {sp : Sp} {E : XK} {x : Str} {p pos : Pos} {e : Expr} {es : List Expr} {t : TA} {C : Addr}
theorem CalI.pe (F : CalI X.prog X.w X.K X.mg X.base CX k C ps sp) (hm : X.mg x = some (.ref C)) (hr : Room j X.A) (hx : Passes CX X E) (ha : PA X (e :: es) t) (hk : k + 1 ≤ j := by decide) (hg : Gl X x := by rfl) (hdb : (x == ("__debug__" : Str)) = false := by decide)
    (he : starEach (e :: es) X.env = (false, eval e X.env) :: starEach es X.env := by rfl) (hpl : (backTo pos (starEach es X.env)).any (·.1) = false := by rfl) : PE X (.Call (.Name x p) (e :: es) [] pos) (tMake C sp [] E t) := by
  obtain ⟨f, fd, F, M, b⟩ := F.ex
  exact pe_make M F (hr.mono hk) hg hm b .nil hx ha hdb he hpl
end
end GT
namespace GT
open PySem PySem.Spec PyProof.Rows L2
section
variable {K : Fg} {B : Hp} {O : Own} {L : Sl} {te ta tb tx td tv : TE} {D : Ends}
/-- self.f = {} -/
theorem s_fldRaw {j : Nat} {a C dx : Addr} {fs : List (Str × Dt)} {f : Str} (ho : Ev K B O L ta (.dat (.adr a))) (hj : O[j]? = some (a, .ins C dx fs)) (c : Cls K C) (n : NoAttr K C f) (hl : fs.length < 1000)
    (k : ∀ p, Nx K B ((O ++ [(p, Ob.raw (.dT []))]).set j (a, .ins C dx (putD f (.adr p) fs))) L D.nx) : Nx K B O L (sFld K ta tDNewT f D) :=
  s_fldN (ob := .raw (.dT [])) (fun σ H s Q q p hp => q _ _ (Same.new hp) ⟨p, rfl, hp, upd_same, trivial⟩) ho hj c n hl k
end
end GT
namespace GT
open PySem PySem.Spec PyProof.Rows L2
section
variable {K : Fg} {B : Hp} {O : Own} {L : Sl} {te ta tb tx : TE} {t : TT} {D : Ends} {tu tw : TS} {g : TG}
/-- for over a tuple that stands in the ground, with a plain invariant beside the frame -/
theorem s_forTI {α : Type} {enc : α → Dt} {ys : List α} {a : Addr} {tl : TE} (h : Ev K B O L tl (.dat (.adr a))) (O' : List α → Own) (L1 : List α → α → Sl) (L0 : List α → Sl) (I : List α → Prop) (hl : ∀ _ : List α, TupAt K B a (ys.map enc))
    (hi : I []) (h0 : Nx K B O L fun σ H => Sat K B (O' []) (L0 []) σ H) (hg : ∀ pre y, Tg K B (O' pre) (L0 pre) g (enc y) (L1 pre y))
    (hs : ∀ pre y post, ys = pre ++ y :: post → I pre → Nx K B (O' pre) (L1 pre y) (tu { D with nx := fun σ H => I (pre ++ [y]) ∧ Sat K B (O' (pre ++ [y])) (L0 (pre ++ [y])) σ H, ct := fun σ H => I (pre ++ [y]) ∧ Sat K B (O' (pre ++ [y])) (L0 (pre ++ [y])) σ H, bk := D.nx }))
    (hd : I ys → Nx K B (O' ys) (L0 ys) D.nx) : Nx K B O L (tFor (iTup K tl) g tu D) := fun σ H s =>
  h σ H s _ fun v H1 e1 r1 => by
    cases r1
    exact s_forTW (enc := enc) (hl []) (fun pre σ H => I pre ∧ Sat K B (O' pre) (L0 pre) σ H) (fun pre σ H w => w.2.ex) (fun σ H s => ⟨hi, h0 σ H s⟩)
      (fun pre y post e σ H v w r => hg pre y σ H v w.2 r _ fun σ' s' => hs pre y post e w.1 σ' H s') (fun σ H w => hd w.1 σ H w.2) σ H1 (s.same e1)
end
end GT
namespace GT
open PySem PySem.Spec PyProof.Rows L2
/-- the last own objects are let go -/
theorem Sat.drop {K : Fg} {B : Hp} {O X : Own} {L : Sl} {σ : L2.St} {H : Hp} (s : Sat K B (O ++ X) L σ H) : Sat K B O L σ H :=
  ⟨s.ex, fun p hp => s.own p (List.mem_append_left _ hp), by have := s.nd; rw [List.map_append, List.nodup_append] at this; exact this.1, s.len, s.loc⟩
theorem s_drop2 {K : Fg} {B : Hp} {a b c : Addr × Ob} {L : Sl} {P : L2.St → Hp → Prop} (h : Nx K B [a, b] L P) : Nx K B [a, b, c] L P := fun σ H s => h σ H (Sat.drop (O := [a, b]) (X := [c]) s)
end GT
namespace GT
open PySem PySem.Spec PyProof.Rows L2
theorem tup_inv {K : Fg} {H : Hp} {v : V} {ds : List Dt} (h : Tp K H v (.tup ds)) : ∃ t xs, v = .ref t ∧ SqT K H t xs ∧ TpA K H xs ds := by
  cases h with
  | tup ht hd => exact ⟨_, _, rfl, ht, hd⟩
end GT
namespace GT
open PySem PySem.Spec PyProof.Rows L2
section
variable {K : Fg} {B : Hp} {O : Own} {L : Sl} {te ta tb tx : TE} {t : TT} {D : Ends} {tu tw : TS}
/-- some own objects are let go -/
theorem Sat.sub {O' : Own} {σ : L2.St} {H : Hp} (s : Sat K B O L σ H) (h : O'.Sublist O) : Sat K B O' L σ H :=
  ⟨s.ex, fun p hp => s.own p (h.subset hp), s.nd.sublist (h.map _), s.len, s.loc⟩
theorem s_sub {O' : Own} {P : L2.St → Hp → Prop} (h : O'.Sublist O) (k : Nx K B O' L P) : Nx K B O L P := fun σ H s => k σ H (s.sub h)
/-- a word between, of some thing -/
theorem s_cutE {ι : Type} (O' : ι → Own) (L' : ι → Sl) (h : Nx K B O L (tu { D with nx := fun σ H => ∃ i, Sat K B (O' i) (L' i) σ H })) (k : ∀ i, Nx K B (O' i) (L' i) (tw D)) : Nx K B O L (tCut tu tw D) :=
  s_cutW (fun σ H => ∃ i, Sat K B (O' i) (L' i) σ H) h fun σ H ⟨i, s⟩ => k i σ H s
theorem s_okE {ι : Type} {O' : ι → Own} {L' : ι → Sl} (i : ι) (h : Nx K B O L fun σ H => Sat K B (O' i) (L' i) σ H) : Nx K B O L fun σ H => ∃ i, Sat K B (O' i) (L' i) σ H := fun σ H s => ⟨i, h σ H s⟩
end
end GT
namespace GT
open PySem PySem.Spec PyProof.Rows L2
theorem u65 {k : Nat} {A : Around} (r : Room k A) : A.units + 65 < cLine := by
  have := r.un
  omega
end GT
/-! ### GT4: own objects that come and go -/
namespace GT
open PySem PySem.Spec PyProof.Rows L2
section
variable {K : Fg} {B : Hp} {O : Own} {L : Sl} {te ta tb tx tv : TE} {t : TT} {D : Ends} {tu tw : TS} {g : TG}
/-- what the own objects are -/
structure Owns (K : Fg) (B H : Hp) (O : Own) : Prop where
  own : ∀ p ∈ O, B p.1 = none ∧ ObR K H p.1 p.2
  nd : (O.map Prod.fst).Nodup
theorem Sat.owns {σ : L2.St} {H : Hp} (s : Sat K B O L σ H) : Owns K B H O := ⟨s.own, s.nd⟩
theorem Sat.ofOwns {O' : Own} {σ : L2.St} {H : Hp} (s : Sat K B O L σ H) (o : Owns K B H O') : Sat K B O' L σ H := ⟨s.ex, o.own, o.nd, s.len, s.loc⟩
theorem nodup_move {α : Type} {x : α} : ∀ {l : List α} (i : Nat), (l ++ [x]).Nodup → (l.set i x).Nodup
  | [], _, _ => List.nodup_nil
  | y :: l, 0, h => by
    rw [List.cons_append, List.nodup_cons, List.nodup_append] at h
    rw [List.set_cons_zero, List.nodup_cons]
    exact ⟨fun hm => h.2.2.2 x hm x (List.mem_singleton.mpr rfl) rfl, h.2.1⟩
  | y :: l, i + 1, h => by
    rw [List.cons_append, List.nodup_cons] at h
    rw [List.set_cons_succ, List.nodup_cons]
    refine ⟨fun hm => ?_, nodup_move i h.2⟩
    rcases List.mem_or_eq_of_mem_set hm with hm | e
    · exact h.1 (List.mem_append_left _ hm)
    · exact h.1 (e ▸ List.mem_append_right _ (List.mem_singleton.mpr rfl))
/-- the last one takes another's place -/
theorem Sat.move {x : Addr × Ob} {σ : L2.St} {H : Hp} (s : Sat K B (O ++ [x]) L σ H) (i : Nat) : Sat K B (O.set i x) L σ H := by
  refine ⟨s.ex, fun p hp => ?_, ?_, s.len, s.loc⟩
  · rcases List.mem_or_eq_of_mem_set hp with hp | e
    · exact s.own p (List.mem_append_left _ hp)
    · exact s.own p (e ▸ List.mem_append_right _ (List.mem_singleton.mpr rfl))
  · have h := s.nd
    rw [List.map_append] at h
    rw [List.map_set]
    exact nodup_move i h
theorem s_move {x : Addr × Ob} {P : L2.St → Hp → Prop} (i : Nat) (h : Nx K B (O.set i x) L P) : Nx K B (O ++ [x]) L P := fun σ H s => h σ H (s.move i)
/-- all own objects stand in the ground from now on -/
theorem s_freeze {P : L2.St → Hp → Prop} (k : ∀ B' : Hp, Same B B' → Owns K B B' O → Nx K B' [] L P) : Nx K B O L P := fun σ H s =>
  k H s.ex s.owns σ H ⟨.refl H, fun p hp => absurd hp (by simp), by simp, s.len, s.loc⟩
theorem Owns.ls {B' : Hp} (o : Owns K B B' O) {j : Nat} {a : Addr} {ds : List Dt} (h : O[j]? = some (a, .lst ds)) : LsR K B' (.ref a) ds := by
  obtain ⟨vs, h1, h2⟩ := (o.own _ (List.mem_of_getElem? h)).2
  exact ⟨a, vs, rfl, .of h1, h2⟩
/-- xs[i] = a new object -/
theorem s_setLN {j i : Nat} {k : Int} {a : Addr} {ds : List Dt} {ob : Ob} (h : Ev K B O L te (.new ob)) (ho : ∀ p, Ev K B (O ++ [(p, ob)]) L ta (.dat (.adr a))) (hj : O[j]? = some (a, .lst ds)) (hi : ∀ p, Ev K B (O ++ [(p, ob)]) L tb (.dat (.int k))) (hk : ixN ds.length k = some i)
    (hn : ∀ p, Nx K B ((O ++ [(p, ob)]).set j (a, .lst (ds.set i (.adr p)))) L D.nx) : Nx K B O L (tAsg te (gSub ta tb rSetL) D) := fun σ H s =>
  h σ H s _ fun v H1 e1 ⟨p, hv, hp, r1⟩ => by
    subst hv
    have s1 := s.addOwn e1 hp r1
    refine ho p σ H1 s1 _ fun u H2 e2 r2 => hi p σ H2 (s1.same e2) _ fun w H3 e3 r3 => ?_
    cases r2
    cases r3
    have s3 := (s1.same e2).same e3
    have hj2 : (O ++ [(p, ob)])[j]? = some (a, .lst ds) := by
      rw [List.getElem?_append_left (List.getElem?_eq_some_iff.mp hj).1]
      exact hj
    obtain ⟨vs, h3, h4⟩ := (s3.at hj2).2
    have m : Mut (H3 a) := by rw [h3]; trivial
    exact ⟨a, vs, k, i, rfl, rfl, h3, by rw [h4.length]; exact hk, hn p σ _ (s3.mut hj2 m ⟨vs.set i (.ref p), upd_same, (h4.set (Tp.adr p) i).keep (.mut m)⟩)⟩
/-! two new objects in a tuple -/
theorem s_retTwo {j : Nat} {p : Addr} {o1 o2 : Ob} {tl : TA} (h1 : EvA K B O L tl [.dat (.adr p), .new o2]) (hj : O[j]? = some (p, o1)) (k : Rt K B D.rt (.two o1 o2)) : Nx K B O L (tRet (tTup tl) D) := fun σ H s =>
  h1 σ H s _ fun vs H1 e1 r1 => by
    cases r1 with
    | cons r2 r1 =>
      cases r1 with
      | cons r3 r1 =>
        cases r1
        cases r2
        obtain ⟨q, rfl, hq, r3⟩ := r3
        refine ⟨by rw [sizeLine_eq]; show 2 ≤ _; omega, fun t ht => ?_⟩
        have s1 := (s.same e1)
        have e2 : Same H1 (upd H1 t (.tup [.ref p, .ref q])) := Same.new ht
        obtain ⟨b1, b2⟩ := s.at hj
        have hpq : p ≠ q := by
          rintro rfl
          exact b2.some hq
        exact k _ _ (s1.ex.trans e2) ⟨p, q, .tup (.of upd_same) (.cons (.adr p) (.cons (.adr q) .nil)), b1, s.ex.free hq, hpq, ((b2.same e1).same e2), r3.same e2⟩
theorem s_asgTwo {i : Nat} {o1 o2 : Ob} (h : Ev K B O L te (.two o1 o2)) (k : ∀ p q, Nx K B (O ++ [(p, o1), (q, o2)]) (L.set i (some (.tup [.adr p, .adr q]))) D.nx) : Nx K B O L (tAsg te (gName i) D) := fun σ H s =>
  h σ H s _ fun v H1 e1 ⟨p, q, h0, hp, hq, hpq, r1, r2⟩ => by
    have s1 := s.addOwn e1 hp r1
    have s2 : Sat K B ((O ++ [(p, o1)]) ++ [(q, o2)]) L σ H1 := by
      refine ⟨s1.ex, fun x hx => ?_, ?_, s1.len, s1.loc⟩
      · rcases List.mem_append.mp hx with hx | hx
        · exact s1.own x hx
        · rw [List.mem_singleton.mp hx]
          exact ⟨s.ex.free hq, r2⟩
      · rw [List.map_append, List.nodup_append]
        refine ⟨s1.nd, by simp, fun a ha b hb => ?_⟩
        have hb' : b = q := by simpa using hb
        subst hb'
        rintro rfl
        rw [List.map_append] at ha
        rcases List.mem_append.mp ha with ha | ha
        · obtain ⟨y, hy, rfl⟩ := List.mem_map.mp ha
          exact (s.own y hy).2.some hq
        · exact hpq (by
            have h := ha
            simp at h
            exact h.symm)
    have e : O ++ [(p, o1), (q, o2)] = (O ++ [(p, o1)]) ++ [(q, o2)] := by rw [List.append_assoc]; rfl
    have k' := k p q
    rw [e] at k'
    exact k' _ H1 (s2.set h0)
theorem ev_two0 {o1 o2 : Ob} (h : Ev K B O L te (.two o1 o2)) : Ev K B O L (tOp (rIxT K) te (tC (.int 0))) (.new o1) := fun σ H s Q q =>
  h σ H s _ fun v H1 e1 ⟨p, r, h0, hp, hq, hpq, r1, r2⟩ => by
    obtain ⟨t, xs, rfl, ht, hd⟩ := tup_inv h0
    cases hd with
    | cons d1 hd =>
      cases hd with
      | cons d2 hd =>
        cases hd
        cases d1
        cases d2
        exact ⟨t, _, 0, .ref p, rfl, rfl, ht, rfl, q _ H1 e1 ⟨p, rfl, hp, r1⟩⟩
theorem ev_notInL {i : Int} {ns : List Int} {r : Rs} (ha : Ev K B O L ta (.dat (.int i))) (hb : Ev K B O L tb r) (hl : Ls K B O r (ns.map .int)) : Ev K B O L (tOp (rIn K true) ta tb) (.dat (.bl (!decide (i ∈ ns)))) := fun σ H s Q q =>
  ha σ H s _ fun v H1 e1 r1 => hb σ H1 (s.same e1) _ fun v2 H2 e2 r2 => by
    cases r1
    obtain ⟨p, vs, rfl, h1, h2⟩ := hl L σ H1 H2 v2 (s.same e1) e2 r2
    rw [h2.intsInv] at h1
    refine ⟨_, _, rfl, .inl h1, rfl, flat_ints ns, ?_⟩
    rw [if_pos rfl, inV_ints]
    exact q _ H2 (e1.trans e2) (.bl _)
end
end GT
namespace GT
open PySem PySem.Spec PyProof.Rows L2
theorem pe_fldK {X : Cx} {e : Expr} {f : Str} {pos : Pos} {ta : TE} (K : Fg) (hK : X.K = K) (he : PE X e ta) (hb : attributeBase e f X.env (eval e X.env) = eval e X.env) : PE X (.Attribute e f pos) (tFld K ta f) := by
  subst hK
  exact pe_fld he hb
end GT
/-! ### GT5: lists of lists -/
namespace GT
open PySem PySem.Spec PyProof.Rows L2
section
variable {K : Fg} {B : Hp} {O : Own} {L : Sl} {te ta tb tx tv : TE} {t : TT} {D : Ends} {tu tw : TS} {g : TG}
/-- addresses of lists -/
inductive LsLs (K : Fg) (H : Hp) : List Addr → List (List Dt) → Prop
  | nil : LsLs K H [] []
  | cons {p : Addr} {ps : List Addr} {ds : List Dt} {dss : List (List Dt)} : LsR K H (.ref p) ds → LsLs K H ps dss → LsLs K H (p :: ps) (ds :: dss)
def toLL (dss : List (List Dt)) : PyData := .list (dss.map fun ds => .list (toPyA ds))
theorem LsLs.dp {H : Hp} : ∀ {ps : List Addr} {dss : List (List Dt)}, LsLs K H ps dss → (∀ ds, ds ∈ dss → noAA ds = true) → DpAll K H (ps.map V.ref) (dss.map fun ds => .list (toPyA ds))
  | _, _, .nil, _ => .nil
  | _, _, .cons r t, h => .cons (r.dp (h _ List.mem_cons_self)) (t.dp fun ds hd => h ds (List.mem_cons_of_mem _ hd))
theorem TpA.adrs {H : Hp} : ∀ {vs : List V} (ps : List Addr), TpA K H vs (ps.map Dt.adr) → vs = ps.map V.ref
  | _, [], h => by cases h; rfl
  | _, p :: ps, h => by
    cases h with
    | cons r t =>
      cases r
      rw [TpA.adrs ps t]
      rfl
theorem ev_eqLL {x y : Rs} {ps qs : List Addr} {dss ess : List (List Dt)} (ha : Ev K B O L ta x) (hx : Ls K B O x (ps.map .adr)) (hp : ∀ L σ H, Sat K B O L σ H → LsLs K H ps dss) (hb : Ev K B O L tb y) (hy : Ls K B O y (qs.map .adr)) (hq : ∀ L σ H, Sat K B O L σ H → LsLs K H qs ess)
    (n1 : ∀ ds, ds ∈ dss → noAA ds = true) (n2 : ∀ ds, ds ∈ ess → noAA ds = true) (s1 : SeqAt.shaped (toLL dss) = true) (s2 : SeqAt.shaped (toLL ess) = true) : Ev K B O L (tOp (rEqD K) ta tb) (.dat (.bl (PyData.eqv (toLL dss) (toLL ess)))) := fun σ H s Q q =>
  ha σ H s _ fun v H1 e1 r1 => hb σ H1 (s.same e1) _ fun u H2 e2 r2 => by
    obtain ⟨a, vs, rfl, h1, h2⟩ := (hx L σ H H1 v s e1 r1).same e2
    obtain ⟨b, ws, rfl, h3, h4⟩ := hy L σ H1 H2 u (s.same e1) e2 r2
    have s3 := (s.same e1).same e2
    have h5 := h2.adrs ps
    subst h5
    have h6 := h4.adrs qs
    subst h6
    exact ⟨toLL dss, toLL ess, .lst h1 ((hp L σ H2 s3).dp n1), .lst h3 ((hq L σ H2 s3).dp n2), s1, s2, q _ H2 (e1.trans e2) (.bl _)⟩
theorem ev_neLL {x y : Rs} {ps qs : List Addr} {dss ess : List (List Dt)} (ha : Ev K B O L ta x) (hx : Ls K B O x (ps.map .adr)) (hp : ∀ L σ H, Sat K B O L σ H → LsLs K H ps dss) (hb : Ev K B O L tb y) (hy : Ls K B O y (qs.map .adr)) (hq : ∀ L σ H, Sat K B O L σ H → LsLs K H qs ess)
    (n1 : ∀ ds, ds ∈ dss → noAA ds = true) (n2 : ∀ ds, ds ∈ ess → noAA ds = true) (s1 : SeqAt.shaped (toLL dss) = true) (s2 : SeqAt.shaped (toLL ess) = true) : Ev K B O L (tOp (rNeD K) ta tb) (.dat (.bl (!PyData.eqv (toLL dss) (toLL ess)))) := fun σ H s Q q =>
  ha σ H s _ fun v H1 e1 r1 => hb σ H1 (s.same e1) _ fun u H2 e2 r2 => by
    obtain ⟨a, vs, rfl, h1, h2⟩ := (hx L σ H H1 v s e1 r1).same e2
    obtain ⟨b, ws, rfl, h3, h4⟩ := hy L σ H1 H2 u (s.same e1) e2 r2
    have s3 := (s.same e1).same e2
    have h5 := h2.adrs ps
    subst h5
    have h6 := h4.adrs qs
    subst h6
    exact ⟨toLL dss, toLL ess, .lst h1 ((hp L σ H2 s3).dp n1), .lst h3 ((hq L σ H2 s3).dp n2), s1, s2, q _ H2 (e1.trans e2) (.bl _)⟩
theorem Sat.ls {j : Nat} {a : Addr} {ds : List Dt} {σ : L2.St} {H : Hp} (s : Sat K B O L σ H) (h : O[j]? = some (a, .lst ds)) : LsR K H (.ref a) ds := by
  obtain ⟨vs, h1, h2⟩ := (s.at h).2
  exact ⟨a, vs, rfl, .of h1, h2⟩
/-- x = [new, new] -/
theorem s_asgL2 {i : Nat} {o1 o2 : Ob} (h1 : Ev K B O L ta (.new o1)) (h2 : Ev K B O L tb (.new o2)) (k : ∀ p q r, Nx K B (O ++ [(p, o1), (q, o2), (r, .lst [.adr p, .adr q])]) (L.set i (some (.adr r))) D.nx) : Nx K B O L (tAsg (tLst (tCons ta (tCons tb tNil))) (gName i) D) := fun σ H s =>
  h1 σ H s _ fun v H1 e1 ⟨p, hv, hp, r1⟩ => h2 σ H1 (s.same e1) _ fun u H2 e2 ⟨q, hu, hq, r2⟩ => by
    subst hv
    subst hu
    refine ⟨by rw [sizeLine_eq]; show 2 ≤ _; omega, fun t ht => ?_⟩
    have s1 := s.addOwn e1 hp r1
    have s2 := s1.addOwn e2 hq r2
    have s3 := s2.addOwn (ob := .lst [.adr p, .adr q]) (Same.new ht) ht ⟨[.ref p, .ref q], upd_same, .cons (.adr p) (.cons (.adr q) .nil)⟩
    have e : O ++ [(p, o1), (q, o2), (t, .lst [.adr p, .adr q])] = ((O ++ [(p, o1)]) ++ [(q, o2)]) ++ [(t, .lst [.adr p, .adr q])] := by rw [List.append_assoc, List.append_assoc]; rfl
    have k' := k p q t
    rw [e] at k'
    exact k' _ _ (s3.set (.adr t))
/-- for over [data, new] -/
theorem s_forL2 {d : Dt} {ob : Ob} (h1 : Ev K B O L ta (.dat d)) (h2 : Ev K B O L tb (.new ob)) (k : ∀ p q, Nx K B (O ++ [(p, ob), (q, .lst [d, .adr p])]) L (tFor (iList K (tC (.ref q))) g tu D)) : Nx K B O L (tFor (iList K (tLst (tCons ta (tCons tb tNil)))) g tu D) := fun σ H s =>
  h1 σ H s _ fun v H1 e1 r1 => h2 σ H1 (s.same e1) _ fun u H2 e2 ⟨p, hu, hp, r2⟩ => by
    subst hu
    refine ⟨by rw [sizeLine_eq]; show 2 ≤ _; omega, fun t ht => ?_⟩
    have s1 := s.same e1
    have s2 := s1.addOwn e2 hp r2
    have r1' : Tp K H1 v d := r1
    have s3 := s2.addOwn (ob := .lst [d, .adr p]) (Same.new ht) ht ⟨[v, .ref p], upd_same, .cons (r1'.same (e2.trans (Same.new ht))) (.cons (.adr p) .nil)⟩
    have e : O ++ [(p, ob), (t, .lst [d, .adr p])] = (O ++ [(p, ob)]) ++ [(t, .lst [d, .adr p])] := by rw [List.append_assoc]; rfl
    have k' := k p t
    rw [e] at k'
    exact k' σ _ s3
end
end GT
/-! ### sorted(..) of tuples of ints of any lengths, and of a dict's keys that are pairs -/
namespace SX
open PySem PySem.W PySem.Calls PyProof.Rows Builtin
/-- v is a tuple of these numbers -/
def TI (h : Heap) (v : Value) (ns : List Int) : Prop := ∃ a items n dd sl, v = .ref a ∧ h.get? a = some { cls := .type "tuple", dict := dd, data := .seq items n, slots := sl } ∧ IntsAre items.toList ns
theorem TI.of {h : Heap} {a : Addr} {items : Array Value} {ns : List Int} (x : IsTup h a items) (i : IntsAre items.toList ns) : TI h (.ref a) ns := by
  obtain ⟨⟨cls, dd, data, sl⟩, ho, hc, n, hd⟩ := x
  simp only at hc hd
  subst hc hd
  exact ⟨a, items, n, dd, sl, rfl, ho, i⟩
theorem TI.keeps {h h' : Heap} {v : Value} {ns : List Int} (x : TI h v ns) (k : ∀ b o, v = .ref b → h.get? b = some o → h'.get? b = some o) : TI h' v ns := by
  obtain ⟨a, items, n, dd, sl, e, g, i⟩ := x
  exact ⟨a, items, n, dd, sl, e, k _ _ e g, i⟩
theorem TI.type {M : Model} {h : Heap} {v : Value} {ns : List Int} (x : TI h v ns) : Looks M h (typeOf v) (.type "tuple") := by
  obtain ⟨a, items, n, dd, sl, rfl, g, i⟩ := x
  exact (Looks.ld g).andThen .now
section
variable {prog : Program} {w : World} {A : Around} {E : Value → Shared → Prop} {s : Shared} {M : Model}
theorem lt_ti {v u : Value} {ns ms : List Int} {Q : Bool → Shared → Prop} (hu : A.units < cLine) (hv : TI s.heap v ns) (hw : TI s.heap u ms) (h : Q (HT.lexLt ns ms) s) : wpAny (model prog w) A (keyLt' oneType' v u) Q E s := by
  obtain ⟨a, items, n, dd, sl, rfl, ga, ia⟩ := hv
  obtain ⟨b, items2, n2, dd2, sl2, rfl, gb, ib⟩ := hw
  rw [keyLt'_oneType, oneLt'_eq]
  simp only [if_true]
  refine wpAny_bind (wpAny_cRoomFor hu ?_)
  refine wpAny_bind (wpAny_callSpecialIfBound?_slot (T := "tuple") ⟨_, ga, rfl⟩ PySem.F.slot_tuple_lt (call_meets (s := s) PySem.F.slot_tuple_lt ⟨_, ga, rfl⟩ PySem.F.entry_tuple_lt (PySem.F.args_tuple_lt_2 _ _) (HT.tuple_lt_ints a b items items2 n n2 dd dd2 sl sl2 ns ms ia ib) ⟨ga, gb, ?_⟩))
  exact wpAny_truthy_bool h
theorem mapM_gen {α β : Type} {f : α → Sem β} (r : α → β) : ∀ (l : List α) {Q : List β → Shared → Prop}, (∀ v ∈ l, ∀ (Q' : β → Shared → Prop), Q' (r v) s → wpAny M A (f v) Q' E s) → Q (l.map r) s → wpAny M A (l.mapM f) Q E s
  | [], _, _, h => by rw [List.mapM_nil]; exact wpAny_pure h
  | x :: l, Q, hf, h => by
    rw [List.mapM_cons]
    exact wpAny_bind (hf x (.head _) _ (wpAny_bind (mapM_gen r l (Q := fun bs s' => wpAny M A (pure (r x :: bs)) Q E s') (fun v hv => hf v (.tail _ hv)) (wpAny_pure h))))
/-- the first item of a tuple -/
def fst' (h : Heap) : Value → Option Value
  | .ref a => match h.get? a with
    | some o => match o.data with
      | .seq xs _ => xs[0]?
      | _ => none
    | none => none
  | _ => none
theorem first_ti {v : Value} {ns : List Int} (t : TI s.heap v ns) {Q : Option Value → Shared → Prop} (h : Q (fst' s.heap v) s) : wpAny M A (firstOfTuple' v) Q E s := by
  have ht : Looks M s.heap (typeOf v) (.type "tuple") := t.type
  obtain ⟨a, items, n, dd, sl, rfl, g, i⟩ := t
  rw [kas_first_eq]
  refine wpAny_bind (ht.here ?_)
  rw [if_neg (by first | decide | simp)]
  refine wpAny_bind (listItems_at g rfl (wpAny_pure ?_))
  have e : fst' s.heap (.ref a) = items[0]? := by
    show (match s.heap.get? a with | some o => _ | none => _) = _
    rw [g]
  rw [← e]
  exact h
/-- the first tuple is empty: tuples are compared as wholes -/
theorem kind_ti {v : Value} {vs : List Value} {k : Value → List Int} (hv : ∀ u ∈ v :: vs, TI s.heap u (k u)) (h0 : k v = []) {Q : SortKind → Shared → Prop} (h : Q oneType' s) : wpAny M A (keyKind' (v :: vs).toArray) Q E s := by
  rw [keyKind'_eq, List.mapM_toArray, map_eq_pure_bind]
  refine wpAny_bind (wpAny_bind (mapM_gen (fst' s.heap) _ (fun u hu Q' hq => first_ti (hv u hu) hq) (wpAny_pure ?_)))
  have e0 : fst' s.heap v = none := by
    obtain ⟨a, items, n, dd, sl, rfl, g, i⟩ := hv v List.mem_cons_self
    rw [h0] at i
    show (match s.heap.get? a with | some o => _ | none => _) = _
    rw [g]
    have hz : items.toList = [] := by cases hi : items.toList with
      | nil => rfl
      | cons x y => rw [hi] at i; cases i
    show items[0]? = none
    rw [← Array.getElem?_toList, hz]
    rfl
  have hall : ((List.map (fst' s.heap) (v :: vs)).toArray.all fun x => x.isSome) = false := by
    rw [List.map_cons, e0]
    simp
  have hfst : (((List.map (fst' s.heap) (v :: vs)).toArray[0]?).bind id).isSome = false := by
    rw [List.map_cons, e0]
    simp
  rw [if_neg (by rw [hall]; decide), if_neg (by rw [hfst]; decide)]
  rw [oneTypeOnly'_eq, List.mapM_toArray, map_eq_pure_bind]
  refine wpAny_bind (wpAny_bind (wpAny_bind (kas_mapM (r := Value.type "tuple") _ (fun u hu Q' hq => (TI.type (hv u hu)).here hq) (wpAny_pure ?_))))
  have hall2 : ((List.map (fun _ => Value.type "tuple") (v :: vs)).toArray.all fun x => x == Value.type "tuple") = true := by
    simp only [List.all_toArray, List.all_map, List.all_eq_true]
    intro _ _
    first | rfl | decide | decide +kernel
  have h02 : (List.map (fun _ => Value.type "tuple") (v :: vs)).toArray[0]? = some (Value.type "tuple") := by simp
  rw [h02]
  simp only [hall2, if_true]
  exact wpAny_pure (wpAny_pure h)
theorem ti_sortable {a : Addr} {v : Value} {vs : List Value} {k : Value → List Int} (hu : A.units < cLine) (hv : ∀ u ∈ v :: vs, TI s.heap u (k u)) (h0 : k v = []) (ha : ∀ u ∈ v :: vs, u ≠ .ref a) : SrtO.SortableO prog w A s a (v :: vs) fun v u => HT.lexLt (k v) (k u) := by
  intro h' keep
  have hv' : ∀ u ∈ v :: vs, TI h' u (k u) := fun u hm => (hv u hm).keeps fun b o e g => keep b o (fun z => ha u hm (by rw [e, z])) g
  refine ⟨oneType', fun Q E hq => kind_ti (s := { s with heap := h' }) hv' h0 hq, fun p q hp hq => ?_⟩
  exact lt_ti (s := { s with heap := h' }) (Q := fun r s' => s' = { s with heap := h' } ∧ r = HT.lexLt (k p.1) (k q.1)) (E := fun _ _ => False) hu (hv' p.1 hp) (hv' q.1 hq) ⟨rfl, rfl⟩
end
end SX
namespace L2
open PySem PySem.Spec PyProof.Rows
/-- x before y, by the numbers k says -/
abbrev ltL (k : V → List Int) (x y : V) : Bool := HT.lexLt (k x) (k y)
theorem ltL_swo (k : V → List Int) : SrtO.Swo (ltL k) := NtL.swo_lexL k
/-- sorted(xs), xs a list of tuples of ints, the first of them empty -/
def rSortG (K : PySem.W.Frag) : List V → Hp → VK → Prop := fun vs H Q => ∃ (a : Addr) (z : V × List Int) (zs : List (V × List Int)), vs = [V.ref a] ∧ SqL K H a ((z :: zs).map (·.1)) ∧ (∀ y ∈ z :: zs, ∃ t, y.1 = V.ref t ∧ SqT K H t (y.2.map V.int)) ∧ z.2 = [] ∧
  ∀ (ws : List (V × List Int)) p, ws.Perm (z :: zs) → ws.Pairwise (fun x y => HT.lexLt y.2 x.2 = false) → H p = none → Q (.ref p) (upd H p (.lst (ws.map (·.1))))
/-- the numbers that stand beside a value -/
def numsOf (zs : List (V × List Int)) (v : V) : List Int := ((zs.find? fun z => decide (z.1 = v)).map (·.2)).getD []
theorem map_int_inj : ∀ {a b : List Int}, a.map V.int = b.map V.int → a = b
  | [], [], _ => rfl
  | [], _ :: _, h => by cases h
  | _ :: _, [], h => by cases h
  | x :: a, y :: b, h => by
    rw [List.map_cons, List.map_cons] at h
    obtain ⟨h1, h2⟩ := List.cons.inj h
    cases h1
    rw [map_int_inj h2]
/-- sorted(d), d a dict whose keys are pairs of ints -/
def rSortD : List V → Hp → VK → Prop := fun vs H Q => ∃ (a : Addr) (kvs : List (List Key × V)) (ps : List (Int × Int)), vs = [V.ref a] ∧ Rd H a (.dT kvs) ∧ kvs.map (·.1) = ps.map (fun p => [Sum.inl p.1, Sum.inl p.2]) ∧
  ∀ (ys : List V) (qs : List (Int × Int)) p, (Paired (fun y (q : Int × Int) => ∃ t, y = V.ref t ∧ H t = some (.tup [.int q.1, .int q.2])) ys qs) → SrtO.Srtd SrtO.lexB qs → qs.Perm ps → H p = none → Q (.ref p) (upd H p (.lst ys))
section
variable {X : Cx}
theorem cr_sortG (hu : X.A.units + 64 < cLine) : CallR X (.builtin "sorted") (rSortG X.K) := by
  intro pins s σ H vs us Q I r h
  obtain ⟨a, z, zs, rfl, hs, hx, h0, q⟩ := h
  obtain ⟨its, rv, hl, hz⟩ := I.list hs
  obtain ⟨u, rfl, ru⟩ := vals1 r
  obtain rfl : u = Value.ref a := ru
  have hnum : ∀ y ∈ z :: zs, numsOf (z :: zs) y.1 = y.2 := fun y hy => by
    unfold numsOf
    cases hf : (z :: zs).find? fun w => decide (w.1 = y.1) with
    | none =>
      have := List.find?_eq_none.mp hf y hy
      simp at this
    | some w =>
      have h1 : w.1 = y.1 := by simpa using List.find?_some hf
      have h2 := List.mem_of_find?_eq_some hf
      obtain ⟨t, e, ht⟩ := hx w h2
      obtain ⟨t', e', ht'⟩ := hx y hy
      rw [h1, e'] at e
      cases e
      exact map_int_inj (I.tuple_inj ht ht')
  obtain ⟨e1, e2⟩ := refs_back rv fun x m => by
    obtain ⟨y, hy, rfl⟩ := List.mem_map.mp m
    obtain ⟨t, e, _⟩ := hx y hy
    exact ⟨t, e⟩
  generalize hk : (fun v => numsOf (z :: zs) v) = k at *
  have ez : z :: zs = its.map fun u => (backV u, k (backV u)) := by
    have h3 : (z :: zs).map (fun y => (y.1, k y.1)) = z :: zs := by
      have h4 : ∀ y ∈ z :: zs, (y.1, k y.1) = y := fun y hy => by
        have : k y.1 = y.2 := by rw [← hk]; exact hnum y hy
        rw [this]
      exact (List.map_congr_left h4).trans (List.map_id _)
    rw [← h3]
    have h5 : (z :: zs).map (fun y => (y.1, k y.1)) = ((z :: zs).map (·.1)).map fun v => (v, k v) := by
      rw [List.map_map]
      rfl
    rw [h5, e1, List.map_map]
    rfl
  obtain ⟨v, its, rfl⟩ : ∃ v l, its = v :: l := by
    cases its with
    | nil => cases rv
    | cons v l => exact ⟨v, l, rfl⟩
  have ti : ∀ u ∈ v :: its, SX.TI s.heap u (k (backV u)) := fun u hu => by
    obtain ⟨t, rfl⟩ := e2 u hu
    have hm : (V.ref t, k (V.ref t)) ∈ z :: zs := by rw [ez]; exact List.mem_map.mpr ⟨_, hu, rfl⟩
    obtain ⟨t', e, ht⟩ := hx _ hm
    cases e
    obtain ⟨its2, r2, ht2, _⟩ := I.tuple ht
    exact (show SX.TI s.heap (.ref t) (k (V.ref t)) from SX.TI.of ht2 (by simpa using intsAre_of r2))
  have kx : k (backV v) = [] := by
    rw [List.map_cons] at ez
    have := (List.cons.inj ez).1
    rw [this] at h0
    exact h0
  refine SrtO.sorted_ord (NtL.swo_lexL fun u => k (backV u)) hl.isList (by rw [← rv.length]; exact hz) (fun h2 h₁ a₁ ha kk => ?_) fun out h1 h2 => ?_
  · refine SX.ti_sortable (s := { s with heap := h₁ }) (by show (X.A.units + 1) + 1 < cLine; omega) (fun u hm => (ti u hm).keeps fun b o _ g => (kk b o g).2) kx fun u hm z => ?_
    obtain ⟨b, items, n, dd, sl, e, g, _⟩ := ti u hm
    rw [z] at e
    cases e
    exact (kk _ _ g).1 rfl
  · have h3 : ∀ u ∈ out, ∃ a, u = Value.ref a := fun u hu => e2 u (h2.perm.mem_iff.mp hu)
    have hp : (out.map fun u => (backV u, k (backV u))).Perm (z :: zs) := by
      rw [ez]
      exact h2.perm.map _
    obtain ⟨n, hn⟩ := PyProof.Rows.sortedAll_at s.heap (v :: its) out.toArray
    have ef : (out.map fun u => (backV u, k (backV u))).map (·.1) = out.map backV := by
      rw [List.map_map]
      rfl
    have q' := q _ (s.heap.objs.size + 1) hp (List.pairwise_map.mpr h1) (I.hok.fresh (Nat.le_succ _))
    rw [ef] at q'
    refine ⟨.ref (s.heap.objs.size + 1), upd H (s.heap.objs.size + 1) (.lst (out.map backV)), I.laid (t' := s.toks) (fun b o e => PyProof.Rows.sortedAll_old e) (Nat.le_succ _) ⟨?_, out, n, vals_back h3, hn⟩, rfl, q'⟩
    rw [List.length_map, h2.perm.length_eq, ← rv.length]
    exact hz
end
end L2
namespace L2
open PySem PySem.Spec PyProof.Rows
/-- the pair at an address -/
def pairAt (H : Hp) : Value → Int × Int
  | .ref t => match H t with
    | some (.tup [.int i, .int j]) => (i, j)
    | _ => (0, 0)
  | _ => (0, 0)
theorem pairAt_of {H : Hp} {t : Addr} {i j : Int} (h : H t = some (.tup [.int i, .int j])) : pairAt H (.ref t) = (i, j) := by
  show (match H t with | some (.tup [.int i, .int j]) => (i, j) | _ => (0, 0)) = _
  rw [h]
theorem kt_pairs {H : Hp} : ∀ {kvs : List (List Key × V)} {xs : List (List Key × Addr × Value)} {ps : List (Int × Int)}, KT H kvs xs → kvs.map (·.1) = ps.map (fun p => [Sum.inl p.1, Sum.inl p.2]) →
    (∀ x ∈ xs, ∃ i j, H x.2.1 = some (.tup [.int i, .int j])) ∧ (xs.map fun x => pairAt H (.ref x.2.1)) = ps
  | [], _, ps, .nil, e => by
    cases ps with
    | nil => exact ⟨fun x hx => absurd hx (by simp), rfl⟩
    | cons p ps => cases e
  | kv :: kvs, x :: xs, ps, .cons h t, e => by
    cases ps with
    | nil => cases e
    | cons p ps =>
      rw [List.map_cons, List.map_cons] at e
      obtain ⟨e1, e2⟩ := List.cons.inj e
      obtain ⟨h1, h2⟩ := kt_pairs t e2
      have hx : H x.2.1 = some (.tup [.int p.1, .int p.2]) := by
        have := h.2.1
        rw [e1] at this
        exact this
      refine ⟨fun y hy => ?_, ?_⟩
      · rcases List.mem_cons.mp hy with e | hy
        · rw [e]
          exact ⟨_, _, hx⟩
        · exact h1 y hy
      · rw [List.map_cons, h2, pairAt_of hx]
section
variable {X : Cx}
theorem cr_sortD (hcalm : X.calm = true) : CallR X (.builtin "sorted") rSortD := by
  intro pins s σ H vs us Q I r h
  obtain ⟨a, kvs, ps, rfl, hd, hks, q⟩ := h
  obtain ⟨u, rfl, ru⟩ := vals1 r
  obtain rfl : u = Value.ref a := ru
  obtain ⟨z, lo, xs, rel, dd⟩ := dt_rd I.hok hd
  obtain ⟨es, ep, hraw, hsz, hent⟩ := Heap.DictOfH.raw dd
  obtain ⟨hpx, hps⟩ := kt_pairs rel hks
  have hlx : xs.length = kvs.length := by
    have e := congrArg List.length hks
    have e2 := congrArg List.length hps
    rw [List.length_map, List.length_map] at e
    rw [List.length_map] at e2
    omega
  refine Calls.call_function_entry PyProof.Rows.kind_sorted PyProof.Rows.plain_sorted PyProof.Rows.entry_sorted (PyProof.Rows.args_sorted1 _) ?_
  unfold Builtin.«sorted»
  refine wpAny_bind (m := checkCount "sorted" 1 1 _) (wpAny_pure ?_)
  refine wpAny_bind (PySem.W.kdu_collect (A := X.A.in1) (KdlSrc.rawDict (es := es) (ep := ep) lo) (I.ok.hd hcalm) hraw (by rw [hsz, hlx]; exact z) fun h' tk acc hk hacc => ?_)
  have hac : acc.toList = xs.map fun x => Value.ref x.2.1 := by
    refine List.ext_getElem? fun j => ?_
    rw [List.getElem?_map]
    cases e : acc.toList[j]? with
    | none =>
      have hl := List.getElem?_eq_none_iff.mp e
      rw [Array.length_toList, hacc.1, hsz] at hl
      rw [List.getElem?_eq_none hl]
      rfl
    | some v =>
      obtain ⟨hi, ev⟩ := hacc.2 j v (by rw [← Array.getElem?_toList]; exact e)
      obtain ⟨y, hy, ek, _⟩ := hent j hi
      rw [hy, ev, ek]
      rfl
  rw [hac]
  have hl : (xs.map fun x => Value.ref x.2.1).length ≤ sizeLine := by
    rw [List.length_map, hlx]
    exact z
  have I1 : Inv X pins σ H { s with heap := h', toks := tk } := I.kept hk
  refine wpAny_bind (wpAny_newList ?_ hl)
  generalize hvs : (xs.map fun x => Value.ref x.2.1) = vs at hl
  have hvp : ∀ v ∈ vs, ∃ t i j, v = .ref t ∧ H t = some (.tup [.int i, .int j]) := fun v hv => by
    rw [← hvs] at hv
    obtain ⟨x, hx, rfl⟩ := List.mem_map.mp hv
    obtain ⟨i, j, e⟩ := hpx x hx
    exact ⟨_, i, j, rfl, e⟩
  have hoL : (h'.push (seqObj "list" vs.toArray 0)).get? h'.objs.size = some (seqObj "list" vs.toArray 0) := Heap.get?_push_size _ rfl
  show wpAny _ _ _ _ _ { s with heap := h'.push (seqObj "list" vs.toArray 0), toks := tk }
  have hpr : ∀ v ∈ vs, Srt.IsPair (h'.push (seqObj "list" vs.toArray 0)) v (pairAt H v).1 (pairAt H v).2 := fun v hv => by
    obtain ⟨t, i, j, rfl, e⟩ := hvp v hv
    rw [pairAt_of e]
    obtain ⟨_, its2, r2, o, ho, hc, n, hdt⟩ := I1.hok _ _ e
    obtain ⟨u1, u2, rfl, ri, rj⟩ := vals2 r2
    obtain ⟨t1, rfl⟩ := ri
    obtain ⟨t2, rfl⟩ := rj
    exact ⟨t, o, t1, t2, n, rfl, Heap.get?_push_of_some _ ho, hc, hdt⟩
  refine wpAny_bind (wpAny_holding (wpAny_call_entry PyProof.Rows.slot_list_sort ⟨_, hoL, rfl⟩ PyProof.Rows.entry_list_sort
    (SrtO.list_sort_ord (s := { s with heap := h'.push (seqObj "list" vs.toArray 0), toks := tk }) (SrtO.swo_lex (pairAt H)) hoL hl (fun h2 => SrtO.pairs_sortableO (by omega) hpr fun o e => ?_) fun out h1 h2 => ⟨_, rfl, ?_⟩) (PyProof.Rows.args_list_sort _)))
  · have e' : some o = some (seqObj "list" vs.toArray 0) := e.symm.trans hoL
    cases e'
    intro c
    exact absurd (Value.type.inj c) (by decide)
  · obtain ⟨e', he'⟩ := PyProof.Rows.sortedHeap_at (vs := vs) (out := out.toArray) hoL
    have h3 : ∀ u ∈ out, ∃ t, u = Value.ref t := fun u hu => by
      obtain ⟨t, i, j, e, _⟩ := hvp u (h2.perm.mem_iff.mp hu)
      exact ⟨t, e⟩
    have hp : (out.map (pairAt H)).Perm ps := by
      have p1 := h2.perm.map (pairAt H)
      rw [← hvs, List.map_map] at p1
      have : (xs.map (pairAt H ∘ fun x => Value.ref x.2.1)) = ps := hps
      rw [this] at p1
      exact p1
    have hpd : ∀ l : List Value, (∀ u ∈ l, u ∈ vs) → Paired (fun y (q : Int × Int) => ∃ t, y = V.ref t ∧ H t = some (.tup [.int q.1, .int q.2])) (l.map backV) (l.map (pairAt H)) := by
      intro l
      induction l with
      | nil => intro _; exact .nil
      | cons u l ih =>
        intro hu
        obtain ⟨t, i, j, rfl, e⟩ := hvp u (hu u List.mem_cons_self)
        refine .cons ⟨t, rfl, ?_⟩ (ih fun v hv => hu v (List.mem_cons_of_mem _ hv))
        rw [pairAt_of e]
        exact e
    refine wpAny_pure ⟨_, rfl, .ref h'.objs.size, upd H h'.objs.size (.lst (out.map backV)), I1.laid (t' := tk) (fun b u e => ?_) (Nat.le_refl _)
      (show ObjOk X.prog X.w _ _ _ (.lst (out.map backV)) from ⟨?_, out, e', vals_back h3, he'⟩), rfl, q _ _ _ (hpd out fun u hu => h2.perm.mem_iff.mp hu) (SrtO.srtd_map (f := pairAt H) h1) hp (I1.hok.fresh (Nat.le_refl _))⟩
    · have hb : b < h'.objs.size := Heap.lt_size e
      rw [PyProof.Rows.sortedHeap_old (Nat.ne_of_lt hb) (by rw [size_push']; exact Nat.lt_succ_of_lt hb)]
      exact Heap.get?_push_of_some _ e
    · rw [List.length_map, h2.perm.length_eq]
      exact hl
end
end L2

/-! ### fractions: what the programs' loops reckon is core Rat -/
namespace My
open PySem PySem.Spec PyProof.Rows L2 GT
abbrev dQ (q : Rat) : Dt := .tup [.int q.num, .int q.den]
/-- a fraction of less than 2 ^ n either side -/
def Sz (n : Nat) (q : Rat) : Prop := q.num.natAbs < 2 ^ n ∧ q.den < 2 ^ n
theorem Sz.mono {n m : Nat} {q : Rat} (h : Sz n q) (hm : n ≤ m) : Sz m q :=
  ⟨Nat.lt_of_lt_of_le h.1 (Nat.pow_le_pow_right (by omega) hm), Nat.lt_of_lt_of_le h.2 (Nat.pow_le_pow_right (by omega) hm)⟩
theorem natAbs_div_le (a : Int) (g : Nat) : (a / (g : Int)).natAbs ≤ a.natAbs := by
  rcases Nat.eq_zero_or_pos g with h | h
  · subst h
    simp
  · have h1 := Int.natAbs_ediv_le_natAbs a g
    exact h1
theorem sz_mkRat {n : Int} {d k : Nat} (hn : n.natAbs < 2 ^ k) (hd : d < 2 ^ k) (h0 : d ≠ 0) : Sz k (mkRat n d) := by
  constructor
  · rw [Rat.num_mkRat]
    split
    · exact Nat.pow_pos (by omega)
    · exact Nat.lt_of_le_of_lt (natAbs_div_le _ _) hn
  · rw [Rat.den_mkRat]
    split
    · contradiction
    · exact Nat.lt_of_le_of_lt (Nat.div_le_self _ _) hd
theorem sz_add {a b : Nat} {p q : Rat} (hp : Sz a p) (hq : Sz b q) : Sz (a + b + 1) (p + q) := by
  rw [Rat.add_def']
  have e : 2 ^ (a + b + 1) = 2 ^ a * 2 ^ b + 2 ^ b * 2 ^ a := by rw [Nat.pow_succ, Nat.pow_add, Nat.mul_comm (2 ^ b)]; omega
  refine sz_mkRat ?_ ?_ (Nat.mul_ne_zero p.den_nz q.den_nz)
  · have h1 : (p.num * q.den).natAbs < 2 ^ a * 2 ^ b := by
      rw [Int.natAbs_mul, Int.natAbs_natCast]
      exact Nat.mul_lt_mul'' hp.1 hq.2
    have h2 : (q.num * p.den).natAbs < 2 ^ b * 2 ^ a := by
      rw [Int.natAbs_mul, Int.natAbs_natCast]
      exact Nat.mul_lt_mul'' hq.1 hp.2
    have h3 := Int.natAbs_add_le (p.num * q.den) (q.num * p.den)
    omega
  · have h1 : p.den * q.den < 2 ^ a * 2 ^ b := Nat.mul_lt_mul'' hp.2 hq.2
    omega
theorem sz_neg {a : Nat} {p : Rat} (hp : Sz a p) : Sz a (-p) := by
  refine ⟨?_, hp.2⟩
  rw [Rat.neg_num, Int.natAbs_neg]
  exact hp.1
theorem sz_sub {a b : Nat} {p q : Rat} (hp : Sz a p) (hq : Sz b q) : Sz (a + b + 1) (p - q) := by
  rw [Rat.sub_eq_add_neg]
  exact sz_add hp (sz_neg hq)
theorem sz_mul {a b : Nat} {p q : Rat} (hp : Sz a p) (hq : Sz b q) : Sz (a + b) (p * q) := by
  rw [Rat.mul_def']
  refine sz_mkRat ?_ ?_ (Nat.mul_ne_zero p.den_nz q.den_nz)
  · rw [Int.natAbs_mul, Nat.pow_add]
    exact Nat.mul_lt_mul'' hp.1 hq.1
  · rw [Nat.pow_add]
    exact Nat.mul_lt_mul'' hp.2 hq.2
theorem sz_inv {a : Nat} {p : Rat} (hp : Sz a p) : Sz a p⁻¹ := by
  constructor
  · rw [Rat.num_inv, Int.natAbs_mul, Int.natAbs_natCast, Int.natAbs_sign]
    split
    · simp
      exact Nat.pow_pos (by omega)
    · rw [Nat.one_mul]
      exact hp.2
  · rw [Rat.den_inv]
    split
    · have := hp.2
      have := p.den_pos
      omega
    · exact hp.1
theorem sz_div {a b : Nat} {p q : Rat} (hp : Sz a p) (hq : Sz b q) : Sz (a + b) (p / q) := by
  rw [Rat.div_def]
  exact sz_mul hp (sz_inv hq)
theorem sz_int {i : Int} {a : Nat} (h : i.natAbs < 2 ^ a) (ha : 0 < a) : Sz a (i : Rat) := by
  refine ⟨?_, ?_⟩
  · rw [Rat.num_intCast]
    exact h
  · rw [Rat.den_intCast]
    exact Nat.one_lt_two_pow (by omega)
theorem sz_zero {a : Nat} (ha : 0 < a) : Sz a 0 := ⟨Nat.pow_pos (by omega), Nat.one_lt_two_pow (by omega)⟩
theorem sz_divInt {n d : Int} {k : Nat} (hn : n.natAbs < 2 ^ k) (hd : d.natAbs < 2 ^ k) (h0 : d ≠ 0) : Sz k (Rat.divInt n d) := by
  rcases Int.natAbs_eq d with e | e
  · rw [e, Rat.divInt_ofNat]
    exact sz_mkRat hn hd (by omega)
  · rw [e, Rat.divInt_neg', Rat.divInt_ofNat]
    refine sz_mkRat ?_ hd (by omega)
    rw [Int.natAbs_neg]
    exact hn
/-- products within the model's line -/
theorem mulW {i j : Int} {a : Nat} (hi : i.natAbs < 2 ^ a) {b : Nat} (hj : j.natAbs < 2 ^ b) (h : a + b ≤ 999990) : CMulW i j :=
  wide_mul (a := a + 1) (b := b + 1) (Nat.lt_of_lt_of_le hi (Nat.pow_le_pow_right (by omega) (by omega))) (Nat.lt_of_lt_of_le hj (Nat.pow_le_pow_right (by omega) (by omega))) (by omega) (by omega) (by omega)
theorem divW {i j : Int} {b : Nat} (h : 0 < j) (hj : j.natAbs < 2 ^ b) (h9 : b < 9000) : CDivW i j :=
  wide_div (b := b + 1) h (Nat.lt_of_lt_of_le hj (Nat.pow_le_pow_right (by omega) (by omega))) (by omega) (by omega)
theorem divK {i : Int} {j : Int} (h : 0 < j) (hj : j.natAbs < 2 ^ 100) : CDivW i j := divW h hj (by omega)
/-- the fraction of a top and a bottom, by the greatest common divisor -/
theorem low_divInt (t b : Int) (h : 0 < b) : (Rat.divInt t b).num = t / (Nat.gcd t.natAbs b.natAbs : Nat) ∧ ((Rat.divInt t b).den : Int) = b / (Nat.gcd t.natAbs b.natAbs : Nat) := by
  have hs : b.sign = 1 := Int.sign_eq_one_of_pos h
  have hg : Int.gcd b t = Nat.gcd t.natAbs b.natAbs := by rw [Int.gcd_comm]; rfl
  constructor
  · rw [Rat.num_divInt, hs, Int.one_mul, hg]
  · rw [Rat.den_divInt, if_neg (by omega), hg, Int.natCast_ediv]
    congr 1
    omega
theorem gcd_step (x y : Int) (hx : 0 ≤ x) (hy : 0 < y) : Nat.gcd y.natAbs (x % y).natAbs = Nat.gcd x.natAbs y.natAbs := by
  obtain ⟨m, rfl⟩ := Int.eq_ofNat_of_zero_le hx
  obtain ⟨n, rfl⟩ := Int.eq_ofNat_of_zero_le (Int.le_of_lt hy)
  have e : ((m : Int) % (n : Int)).natAbs = m % n := by
    rw [← Int.natCast_emod, Int.natAbs_natCast]
  rw [e, Int.natAbs_natCast, Int.natAbs_natCast, Nat.gcd_comm m n, Nat.gcd_rec n m, Nat.gcd_comm]
theorem divInt_neg_neg (t b : Int) : Rat.divInt (-t) (-b) = Rat.divInt t b := Rat.neg_divInt_neg t b
theorem add_divInt (p q : Rat) : Rat.divInt (p.num * q.den + q.num * p.den) (p.den * q.den) = p + q := by
  rw [Rat.add_def', ← Rat.divInt_ofNat, Int.natCast_mul]
theorem sub_divInt (p q : Rat) : Rat.divInt (p.num * q.den - q.num * p.den) (p.den * q.den) = p - q := by
  rw [Rat.sub_def', ← Rat.divInt_ofNat, Int.natCast_mul]
theorem mul_divInt (p q : Rat) : Rat.divInt (p.num * q.num) (p.den * q.den) = p * q := by
  rw [Rat.mul_def', ← Rat.divInt_ofNat, Int.natCast_mul]
theorem div_divInt (p q : Rat) : Rat.divInt (p.num * q.den) (p.den * q.num) = p / q := by
  rw [Rat.div_def, Rat.inv_def]
  conv => rhs; rw [← Rat.num_divInt_den p]
  rw [Rat.divInt_mul_divInt]
theorem lt_cross (p q : Rat) : decide (p.num * q.den < q.num * p.den) = decide (p < q) := by
  rw [decide_eq_decide]
  exact (Rat.lt_iff p q).symm
theorem m_nn {p q : Rat} (hp : Sz 4000 p) (hq : Sz 4000 q) : CMulW p.num q.num := mulW hp.1 hq.1 (by omega)
theorem m_nd {p q : Rat} (hp : Sz 4000 p) (hq : Sz 4000 q) : CMulW p.num q.den := mulW hp.1 (by rw [Int.natAbs_natCast]; exact hq.2) (by omega)
theorem m_dn {p q : Rat} (hp : Sz 4000 p) (hq : Sz 4000 q) : CMulW p.den q.num := mulW (by rw [Int.natAbs_natCast]; exact hp.2) hq.1 (by omega)
theorem m_dd {p q : Rat} (hp : Sz 4000 p) (hq : Sz 4000 q) : CMulW p.den q.den := mulW (by rw [Int.natAbs_natCast]; exact hp.2) (by rw [Int.natAbs_natCast]; exact hq.2) (by omega)
theorem dd_ne (p q : Rat) : (p.den : Int) * q.den ≠ 0 := by
  have h1 := p.den_nz
  have h2 := q.den_nz
  exact Int.mul_ne_zero (by omega) (by omega)
theorem dd_pos (p q : Rat) : 0 < (p.den : Int) * q.den := by
  have h1 := p.den_pos
  have h2 := q.den_pos
  exact Int.mul_pos (by omega) (by omega)
theorem dd_lt {p q : Rat} (hp : Sz 4000 p) (hq : Sz 4000 q) : ((p.den : Int) * q.den).natAbs < 2 ^ 8999 := by
  rw [Int.natAbs_mul, Int.natAbs_natCast, Int.natAbs_natCast]
  refine Nat.lt_of_lt_of_le (Nat.mul_lt_mul'' hp.2 hq.2) ?_
  rw [← Nat.pow_add]
  exact Nat.pow_le_pow_right (by omega) (by omega)
theorem dn_lt {p q : Rat} (hp : Sz 4000 p) (hq : Sz 4000 q) : ((p.den : Int) * q.num).natAbs < 2 ^ 8999 := by
  rw [Int.natAbs_mul, Int.natAbs_natCast]
  refine Nat.lt_of_lt_of_le (Nat.mul_lt_mul'' hp.2 hq.1) ?_
  rw [← Nat.pow_add]
  exact Nat.pow_le_pow_right (by omega) (by omega)
theorem dn_ne {p q : Rat} (h : q ≠ 0) : (p.den : Int) * q.num ≠ 0 := by
  have h1 := p.den_nz
  refine Int.mul_ne_zero (by omega) fun z => h (Rat.num_eq_zero.mp z)
theorem k_tt : kitB "tuple" "tuple" = some true := by decide +kernel
theorem k_ii : kitB "int" "int" = some true := by decide +kernel
theorem k_ib : kitB "int" "bool" = some false := by decide +kernel
theorem k_bb : kitB "bool" "bool" = some true := by decide +kernel
theorem k_ll : kitB "list" "list" = some true := by decide +kernel
theorem k_ss : kitB "str" "str" = some true := by decide +kernel
theorem abs_eq (t : Int) : (if t < 0 then -t else t) = (t.natAbs : Int) := by
  split <;> omega
theorem dQ_int (i : Int) : dQ (i : Rat) = .tup [.int i, .int 1] := rfl
theorem dQ_zero : dQ 0 = .tup [.int 0, .int 1] := rfl
theorem dQ_one : dQ 1 = .tup [.int 1, .int 1] := rfl
end My

/-! ### data of the programs: how == tells them apart -/
namespace My
open PySem PySem.Spec PyProof.Rows L2 GT
/-- flat to the depth n -/
inductive Fl : Nat → Dt → Prop
  | non {n : Nat} : Fl n .non
  | bl {n : Nat} (b : Bool) : Fl n (.bl b)
  | int {n : Nat} (i : Int) : Fl n (.int i)
  | tup {n : Nat} {ds : List Dt} : (∀ d, d ∈ ds → Fl n d) → Fl (n + 1) (.tup ds)
theorem Fl.facts : ∀ {n : Nat} {d : Dt}, Fl n d → noA d = true ∧ (toPy d).canLay0 = true ∧ (toPy d).depth ≤ n := by
  intro n
  induction n with
  | zero =>
    intro d h
    cases h with
    | non => exact ⟨rfl, rfl, Nat.le_refl _⟩
    | bl b => exact ⟨rfl, rfl, Nat.le_refl _⟩
    | int i => exact ⟨rfl, rfl, Nat.le_refl _⟩
  | succ n ih =>
    intro d h
    cases h with
    | non => exact ⟨rfl, rfl, Nat.zero_le _⟩
    | bl b => exact ⟨rfl, rfl, Nat.zero_le _⟩
    | int i => exact ⟨rfl, rfl, Nat.zero_le _⟩
    | @tup _ ds hd =>
      have all : ∀ ds : List Dt, (∀ d, d ∈ ds → Fl n d) → noAA ds = true ∧ PyData.canLayAll0 (toPyA ds) = true ∧ PyData.depthAll (toPyA ds) ≤ n := by
        intro ds
        induction ds with
        | nil => intro _; exact ⟨rfl, rfl, Nat.zero_le _⟩
        | cons d ds ihd =>
          intro hd
          obtain ⟨a1, a2, a3⟩ := ih (hd d List.mem_cons_self)
          obtain ⟨b1, b2, b3⟩ := ihd fun e he => hd e (List.mem_cons_of_mem _ he)
          refine ⟨?_, ?_, ?_⟩
          · rw [noAA, a1, b1]; rfl
          · rw [toPyA, PyData.canLayAll0, a2, b2]; rfl
          · rw [toPyA, PyData.depthAll]
            exact Nat.max_le.mpr ⟨a3, b3⟩
      obtain ⟨c1, c2, c3⟩ := all ds hd
      refine ⟨?_, ?_, ?_⟩
      · rw [noA]; exact c1
      · rw [toPy, PyData.canLay0]; exact c2
      · rw [toPy, PyData.depth]; omega
theorem Fl.all {n : Nat} {ds : List Dt} (h : ∀ d, d ∈ ds → Fl n d) : noAA ds = true ∧ PyData.canLayAll0 (toPyA ds) = true ∧ PyData.depthAll (toPyA ds) ≤ n := by
  obtain ⟨h1, h2, h3⟩ := (Fl.tup h).facts
  rw [noA] at h1
  rw [toPy, PyData.canLay0] at h2
  rw [toPy, PyData.depth] at h3
  exact ⟨h1, h2, by omega⟩
theorem okD_fl {n : Nat} {d : Dt} (h : Fl n d) (hn : n ≤ 60) : okD d = true := by
  obtain ⟨h1, h2, h3⟩ := h.facts
  unfold okD SeqAt.shaped
  rw [h1, h2, decide_eq_true (by omega : (toPy d).depth ≤ 64)]
  rfl
theorem okL_fl {n : Nat} {ds : List Dt} (h : ∀ d, d ∈ ds → Fl n d) (hn : n ≤ 60) : okL ds = true := by
  obtain ⟨h1, h2, h3⟩ := Fl.all h
  unfold okL SeqAt.shaped
  rw [h1, PyData.canLay0, h2, PyData.depth, decide_eq_true (by omega : PyData.depthAll (toPyA ds) + 1 ≤ 64)]
  rfl
/-- typed data: flat, and == is equality -/
structure Good {α : Type} [DecidableEq α] (n : Nat) (enc : α → Dt) : Prop where
  fl : ∀ x, Fl n (enc x)
  eq : ∀ x y, eqD (enc x) (enc y) = decide (x = y)
theorem goodI : Good 0 Dt.int := ⟨fun i => .int i, fun x y => by
  unfold eqD
  rw [toPy, toPy, PyData.eqv]
  by_cases h : x = y <;> simp [h]⟩
section
variable {α β : Type} [DecidableEq α] [DecidableEq β] {n m : Nat} {enc : α → Dt} {enc' : β → Dt}
theorem eqA_good (g : Good n enc) : ∀ xs ys : List α, PyData.eqvAll (toPyA (xs.map enc)) (toPyA (ys.map enc)) = decide (xs = ys)
  | [], [] => by simp [toPyA, PyData.eqvAll]
  | [], y :: ys => by simp [toPyA, PyData.eqvAll]
  | x :: xs, [] => by simp [toPyA, PyData.eqvAll]
  | x :: xs, y :: ys => by
    have e := g.eq x y
    unfold eqD at e
    rw [List.map_cons, List.map_cons, toPyA, toPyA, PyData.eqvAll, eqA_good g xs ys, e]
    by_cases h : x = y
    · subst h
      by_cases h2 : xs = ys <;> simp [h2]
    · simp [h]
theorem goodL (g : Good n enc) : Good (n + 1) (fun xs : List α => Dt.tup (xs.map enc)) := ⟨fun xs => .tup fun d hd => by
    obtain ⟨x, _, rfl⟩ := List.mem_map.mp hd
    exact g.fl x, fun xs ys => by
    unfold eqD
    rw [toPy, toPy, PyData.eqv]
    exact eqA_good g xs ys⟩
theorem Fl.mono {n m : Nat} {d : Dt} (h : Fl n d) (hm : n ≤ m) : Fl m d := by
  induction h generalizing m with
  | non => exact .non
  | bl b => exact .bl b
  | int i => exact .int i
  | tup _ ih =>
    obtain ⟨k, rfl⟩ : ∃ k, m = k + 1 := ⟨m - 1, by omega⟩
    exact .tup fun d hd => ih d hd (by omega)
theorem Good.mono (g : Good n enc) (h : n ≤ m) : Good m enc := ⟨fun x => (g.fl x).mono h, g.eq⟩
theorem goodP (g : Good n enc) (g' : Good n enc') : Good (n + 1) (fun x : α × β => Dt.tup [enc x.1, enc' x.2]) := ⟨fun x => .tup (fun d hd => by
    rcases List.mem_cons.mp hd with h | h
    · exact h ▸ g.fl x.1
    · rcases List.mem_cons.mp h with h | h
      · exact h ▸ g'.fl x.2
      · cases h), fun x y => by
    have e := g.eq x.1 y.1
    have e' := g'.eq x.2 y.2
    unfold eqD at e e' ⊢
    rw [toPy, toPy, PyData.eqv, toPyA, toPyA, toPyA, toPyA, toPyA, toPyA, PyData.eqvAll, PyData.eqvAll, PyData.eqvAll, e, e']
    by_cases h1 : x.1 = y.1
    · by_cases h2 : x.2 = y.2
      · rw [decide_eq_true h1, decide_eq_true h2, decide_eq_true (Prod.ext h1 h2)]
        rfl
      · rw [decide_eq_true h1, decide_eq_false h2, decide_eq_false (fun z => h2 (congrArg Prod.snd z))]
        rfl
    · rw [decide_eq_false h1, decide_eq_false (fun z => h1 (congrArg Prod.fst z))]
      rfl⟩
theorem okL_good (g : Good n enc) (h : n ≤ 60) (xs : List α) : okL (xs.map enc) = true := okL_fl (fun d hd => by
  obtain ⟨x, _, rfl⟩ := List.mem_map.mp hd
  exact g.fl x) h
theorem eqL_good (g : Good n enc) (xs ys : List α) : eqL (xs.map enc) (ys.map enc) = decide (xs = ys) := by
  unfold eqL
  rw [PyData.eqv]
  exact eqA_good g xs ys
theorem okD_good (g : Good n enc) (h : n ≤ 60) (x : α) : okD (enc x) = true := okD_fl (g.fl x) h
end
theorem goodQ : Good 1 dQ := by
  have g := goodP goodI goodI
  refine ⟨fun q => g.fl (q.num, (q.den : Int)), fun p q => ?_⟩
  refine (g.eq (p.num, (p.den : Int)) (q.num, (q.den : Int))).trans ?_
  rw [decide_eq_decide]
  constructor
  · intro e
    injection e with e1 e2
    exact Rat.ext e1 (by omega)
  · intro e
    rw [e]
abbrev dG (g : List Int) : Dt := .tup (g.map .int)
theorem goodG : Good 1 dG := goodL goodI
abbrev Phase := List Int × Rat
abbrev dPh (x : Phase) : Dt := .tup [dG x.1, dQ x.2]
theorem goodPh : Good 2 dPh := goodP goodG goodQ
abbrev dPr (x : Int × Int) : Dt := .tup [.int x.1, .int x.2]
theorem goodPr : Good 1 dPr := goodP goodI goodI
theorem okD_Q (q : Rat) : okD (dQ q) = true := okD_good goodQ (by omega) q
theorem eqD_Q (p q : Rat) : eqD (dQ p) (dQ q) = decide (p = q) := goodQ.eq p q
/-! sums -/
def sumQ (qs : List Rat) : Rat := qs.foldl (· + ·) 0
theorem sumQ_nil : sumQ [] = 0 := rfl
theorem sumQ_snoc (qs : List Rat) (q : Rat) : sumQ (qs ++ [q]) = sumQ qs + q := by
  unfold sumQ
  rw [List.foldl_append]
  rfl
theorem foldl_add (qs : List Rat) : ∀ x : Rat, qs.foldl (· + ·) x = x + sumQ qs := by
  unfold sumQ
  induction qs with
  | nil => intro x; exact (Rat.add_zero x).symm
  | cons q qs ih =>
    intro x
    rw [List.foldl_cons, List.foldl_cons, ih (x + q), ih (0 + q), Rat.zero_add, Rat.add_assoc]
theorem sumQ_cons (q : Rat) (qs : List Rat) : sumQ (q :: qs) = q + sumQ qs := by
  unfold sumQ
  rw [List.foldl_cons, foldl_add, Rat.zero_add]
  rfl
theorem sumQ_append (ps qs : List Rat) : sumQ (ps ++ qs) = sumQ ps + sumQ qs := by
  induction ps with
  | nil => rw [List.nil_append, sumQ_nil, Rat.zero_add]
  | cons p ps ih => rw [List.cons_append, sumQ_cons, sumQ_cons, ih, Rat.add_assoc]
theorem sumQ_sz {k : Nat} : ∀ qs : List Rat, (∀ q, q ∈ qs → Sz k q) → Sz ((k + 1) * qs.length + 1) (sumQ qs) := by
  intro qs
  induction qs with
  | nil => intro _; exact sz_zero (by omega)
  | cons q qs ih =>
    intro h
    rw [sumQ_cons]
    have h1 := h q List.mem_cons_self
    have h2 := ih fun p hp => h p (List.mem_cons_of_mem _ hp)
    refine (sz_add h1 h2).mono ?_
    rw [List.length_cons, Nat.mul_add]
    omega
/-- small enough to be summed -/
def Sum4 (qs : List Rat) : Prop := ∀ ps : List Rat, ps.Sublist qs → Sz 4000 (sumQ ps)
theorem Sum4.sz {qs : List Rat} (h : Sum4 qs) : Sz 4000 (sumQ qs) := h qs (List.Sublist.refl qs)
theorem Sum4.item {qs : List Rat} (h : Sum4 qs) {q : Rat} (hq : q ∈ qs) : Sz 4000 q := by
  have := h [q] (List.singleton_sublist.mpr hq)
  rwa [sumQ_cons, sumQ_nil, Rat.add_zero] at this
theorem Sum4.pre {ps qs : List Rat} (h : Sum4 (ps ++ qs)) : Sum4 ps := fun rs hr => h rs (hr.trans (List.sublist_append_left ps qs))
theorem Sum4.sub {ps qs : List Rat} (h : Sum4 qs) (hs : ps.Sublist qs) : Sum4 ps := fun rs hr => h rs (hr.trans hs)
theorem Sum4.of {qs : List Rat} {k : Nat} (h : ∀ q, q ∈ qs → Sz k q) {n : Nat} (hn : qs.length ≤ n) (hk : (k + 1) * n + k + 2 ≤ 4000) : Sum4 qs := fun ps hp =>
  (sumQ_sz ps fun q hq => h q (hp.subset hq)).mono (by have := Nat.mul_le_mul_left (k + 1) (Nat.le_trans hp.length_le hn); omega)
theorem filter_true {α : Type} (xs : List α) : xs.filter (fun _ => true) = xs := List.filter_eq_self.mpr fun _ _ => rfl
end My

/-! ### plans: plain -/
namespace My
open PySem PySem.Spec PyProof.Rows L2 GT
/-- a cell of the script -/
def cell (ns : List Int) (k : Int) : Int := ns.getD k.toNat 0
def lens (pl : List Phase) : List Rat := pl.map (·.2)
def roundQ (pl : List Phase) : Rat := sumQ (lens pl)
def greenQ (pl : List Phase) (i : Int) : Rat := sumQ (lens (pl.filter fun ph => decide (i ∈ ph.1)))
theorem lens_enc (p : Phase → Bool) (pl : List Phase) : (pl.filter p).map (fun x => dQ x.2) = (lens (pl.filter p)).map dQ := by
  unfold lens
  rw [List.map_map]
  rfl
theorem lens_encT (pl : List Phase) : (pl.filter fun _ => true).map (fun x => dQ x.2) = (lens pl).map dQ := by
  rw [lens_enc, filter_true]
theorem lens_app (a b : List Phase) : lens (a ++ b) = lens a ++ lens b := List.map_append
theorem roundQ_cons (ph : Phase) (pl : List Phase) : roundQ (ph :: pl) = ph.2 + roundQ pl := sumQ_cons _ _
theorem roundQ_app (a b : List Phase) : roundQ (a ++ b) = roundQ a + roundQ b := by
  unfold roundQ
  rw [lens_app, sumQ_append]
theorem roundQ_nil : roundQ [] = 0 := rfl
theorem lens_sub {a b : List Phase} (h : a.Sublist b) : (lens a).Sublist (lens b) := h.map _
/-- the first phase not gone by -/
def goF : List Phase → Rat → Option (List Int)
  | [], _ => none
  | ph :: r, x => if x < ph.2 then some ph.1 else goF r (x - ph.2)
theorem goF_some : ∀ (pl : List Phase) (x : Rat), x < roundQ pl → 0 ≤ x → ∃ g, goF pl x = some g
  | [], x, h, h0 => by
    rw [roundQ_nil] at h
    exact absurd h (by grind)
  | ph :: r, x, h, h0 => by
    rw [goF]
    by_cases c : x < ph.2
    · exact ⟨_, if_pos c⟩
    · rw [if_neg c]
      rw [roundQ_cons] at h
      exact goF_some r _ (by grind) (by grind)
/-- where one stands after k phases -/
def pre (pl : List Phase) (k : Nat) : Rat := roundQ (pl.take k)
theorem pre_zero (pl : List Phase) : pre pl 0 = 0 := rfl
theorem pre_succ {pl : List Phase} {k : Nat} {ph : Phase} (h : pl[k]? = some ph) : pre pl (k + 1) = pre pl k + ph.2 := by
  unfold pre
  rw [List.take_add_one, h]
  show roundQ (pl.take k ++ [ph]) = _
  rw [roundQ_app, roundQ_cons, roundQ_nil]
  grind
theorem pre_sz {a : Nat} {pl : List Phase} (h : ∀ q, q ∈ lens pl → Sz a q) (k : Nat) : Sz ((a + 1) * pl.length + 1) (pre pl k) := by
  have h1 := sumQ_sz (k := a) (lens (pl.take k)) fun q hq => h q ((lens_sub (List.take_sublist k pl)).subset hq)
  refine h1.mono ?_
  have h2 : (lens (pl.take k)).length ≤ pl.length := by
    unfold lens
    rw [List.length_map, List.length_take]
    exact Nat.min_le_right _ _
  have := Nat.mul_le_mul_left (a + 1) h2
  omega
/-- a moment less its whole rounds -/
def withinQ (pl : List Phase) (m : Rat) : Rat := m - (((m / roundQ pl).num / ((m / roundQ pl).den : Int) : Int) : Rat) * roundQ pl
theorem floor_at (r : Int) (W p : Rat) (hW : 0 < W) (h0 : 0 ≤ p) (h1 : p < W) : (((r : Rat) * W + p) / W).floor = r := by
  have a1 : r ≤ (((r : Rat) * W + p) / W).floor := by
    rw [Rat.le_floor_iff]
    refine Rat.not_lt.mp fun h => ?_
    rw [Rat.div_lt_iff hW] at h
    grind
  have a2 : (((r : Rat) * W + p) / W).floor < r + 1 := by
    rw [Rat.floor_lt_iff, Rat.div_lt_iff hW]
    have e : ((r + 1 : Int) : Rat) = (r : Rat) + 1 := by rw [Rat.intCast_add]; rfl
    rw [e, Rat.add_mul, Rat.one_mul]
    exact Rat.add_lt_add_left.mpr h1
  omega
theorem withinQ_at {pl : List Phase} {r : Int} {p : Rat} (hW : 0 < roundQ pl) (h0 : 0 ≤ p) (h1 : p < roundQ pl) : withinQ pl ((r : Rat) * roundQ pl + p) = p := by
  unfold withinQ
  rw [← Rat.floor_def, floor_at r _ p hW h0 h1]
  grind
/-! drawn plans -/
def bitsN (n : Int) (s : Nat) : List Int := ((List.range s).filter fun (i : Nat) => decide (n / (2 : Int) ^ i % 2 = 1)).map Int.ofNat
theorem bitsN_succ (n : Int) (s : Nat) : bitsN n (s + 1) = if n / (2 : Int) ^ s % 2 = 1 then bitsN n s ++ [(s : Int)] else bitsN n s := by
  unfold bitsN
  rw [List.range_succ, List.filter_append, List.map_append, List.filter_cons]
  by_cases h : n / (2 : Int) ^ s % 2 = 1
  · rw [if_pos (decide_eq_true h), if_pos h]
    rfl
  · rw [if_neg (by rw [decide_eq_false h]; decide), if_neg h]
    exact List.append_nil _
theorem half_pow (n : Int) (i : Nat) : n / (2 : Int) ^ i / 2 = n / (2 : Int) ^ (i + 1) := by
  rw [Int.ediv_ediv_of_nonneg (Int.le_of_lt (Int.pow_pos (by decide))), Int.pow_succ]
def phaseOf (ns : List Int) (st : Int) (s : Nat) (k : Nat) : Phase := (bitsN (cell ns (st + 2 * (k : Int))) s, Rat.divInt (1 + cell ns (st + 2 * (k : Int) + 1) % 20) (1 + cell ns (st + 2 * (k : Int) + 1) / 20 % 12))
def planOf (ns : List Int) (st : Int) (s m : Nat) : List Phase := (List.range m).map (phaseOf ns st s)
theorem planOf_succ (ns : List Int) (st : Int) (s m : Nat) : planOf ns st s (m + 1) = planOf ns st s m ++ [phaseOf ns st s m] := by
  unfold planOf
  rw [List.range_succ, List.map_append]
  rfl
theorem planOf_len (ns : List Int) (st : Int) (s m : Nat) : (planOf ns st s m).length = m := by
  unfold planOf
  rw [List.length_map, List.length_range]
theorem divInt_pos {t b : Int} (ht : 0 < t) (hb : 0 < b) : 0 < Rat.divInt t b := by
  refine Rat.lt_of_le_of_ne ((Rat.divInt_nonneg_iff_of_pos_right hb).mpr (Int.le_of_lt ht)) fun e => ?_
  have h := (Rat.divInt_eq_divInt_iff (d₁ := 1) (d₂ := b) (n₁ := 0) (n₂ := t) (by decide) (by omega)).mp (by rw [← e]; exact Rat.zero_divInt 1)
  omega
theorem phaseOf_pos (ns : List Int) (st : Int) (s k : Nat) : 0 < (phaseOf ns st s k).2 := by
  have h1 := Int.emod_nonneg (cell ns (st + 2 * (k : Int) + 1)) (show (20 : Int) ≠ 0 by decide)
  have h2 := Int.emod_nonneg (cell ns (st + 2 * (k : Int) + 1) / 20) (show (12 : Int) ≠ 0 by decide)
  exact divInt_pos (by omega) (by omega)
theorem phaseOf_sz (ns : List Int) (st : Int) (s k : Nat) : Sz 5 (phaseOf ns st s k).2 := by
  have h1 := Int.emod_nonneg (cell ns (st + 2 * (k : Int) + 1)) (show (20 : Int) ≠ 0 by decide)
  have h2 := Int.emod_nonneg (cell ns (st + 2 * (k : Int) + 1) / 20) (show (12 : Int) ≠ 0 by decide)
  have h3 := Int.emod_lt_of_pos (cell ns (st + 2 * (k : Int) + 1)) (show (0 : Int) < 20 by decide)
  have h4 := Int.emod_lt_of_pos (cell ns (st + 2 * (k : Int) + 1) / 20) (show (0 : Int) < 12 by decide)
  exact sz_divInt (by omega) (by omega) (by omega)
theorem planOf_sz {ns : List Int} {st : Int} {s m : Nat} : ∀ q, q ∈ lens (planOf ns st s m) → Sz 5 q := by
  intro q hq
  obtain ⟨ph, h1, rfl⟩ := List.mem_map.mp hq
  obtain ⟨k, _, rfl⟩ := List.mem_map.mp h1
  exact phaseOf_sz ns st s k
theorem planOf_pos {ns : List Int} {st : Int} {s m : Nat} : ∀ ph, ph ∈ planOf ns st s m → 0 < ph.2 := by
  intro ph h1
  obtain ⟨k, _, rfl⟩ := List.mem_map.mp h1
  exact phaseOf_pos ns st s k
theorem roundQ_nonneg : ∀ {pl : List Phase}, (∀ ph, ph ∈ pl → 0 < ph.2) → 0 ≤ roundQ pl
  | [], _ => by rw [roundQ_nil]; exact Rat.le_refl
  | ph :: r, h => by
    rw [roundQ_cons]
    have h1 := h ph List.mem_cons_self
    have h2 := roundQ_nonneg fun x hx => h x (List.mem_cons_of_mem _ hx)
    grind
theorem roundQ_pos {pl : List Phase} (h : ∀ ph, ph ∈ pl → 0 < ph.2) (hn : pl ≠ []) : 0 < roundQ pl := by
  cases pl with
  | nil => exact absurd rfl hn
  | cons ph r =>
    rw [roundQ_cons]
    have h1 := h ph List.mem_cons_self
    have h2 := roundQ_nonneg fun x hx => h x (List.mem_cons_of_mem _ hx)
    grind
theorem roundQ_take_lt {pl : List Phase} (h : ∀ ph, ph ∈ pl → 0 < ph.2) {k : Nat} (hk : k < pl.length) : 0 ≤ roundQ (pl.take k) ∧ roundQ (pl.take k) < roundQ pl := by
  have h1 : 0 ≤ roundQ (pl.take k) := roundQ_nonneg fun x hx => h x (List.mem_of_mem_take hx)
  have h2 : 0 < roundQ (pl.drop k) := roundQ_pos (fun x hx => h x (List.mem_of_mem_drop hx)) fun e => by
    have := congrArg List.length e
    rw [List.length_drop] at this
    simp at this
    omega
  have e : roundQ pl = roundQ (pl.take k) + roundQ (pl.drop k) := by rw [← roundQ_app, List.take_append_drop]
  exact ⟨h1, by grind⟩
/-- the drawn part of a round -/
def partQ (ns : List Int) (pl : List Phase) (W : Rat) : Rat :=
  if cell ns 2 % 2 = 1 then roundQ (pl.take (cell ns 2 / 2 % (pl.length : Int)).toNat) else Rat.divInt (W.num * (cell ns 3 % (1 + cell ns 2 / 2 % 97))) (W.den * (1 + cell ns 2 / 2 % 97))
theorem frac_part (W : Rat) (hW : 0 < W) (c p : Int) (h0 : 0 ≤ c) (h1 : c < p) : 0 ≤ Rat.divInt (W.num * c) (W.den * p) ∧ Rat.divInt (W.num * c) (W.den * p) < W := by
  have hp : 0 < p := by omega
  have hd : (0 : Int) < W.den := by have := W.den_pos; omega
  have hn : 0 < W.num := by
    have a1 : 0 ≤ W.num := Rat.num_nonneg.mpr (Rat.le_of_lt hW)
    have a2 : W.num ≠ 0 := fun e => by
      rw [Rat.num_eq_zero] at e
      rw [e] at hW
      exact Rat.lt_irrefl hW
    omega
  refine ⟨Rat.divInt_nonneg (Int.mul_nonneg (by omega) h0) (Int.mul_nonneg (by omega) (by omega)), ?_⟩
  have e : Rat.divInt (W.num * c) (W.den * p) = W * Rat.divInt c p := by
    rw [← Rat.divInt_mul_divInt, Rat.num_divInt_den]
  rw [e]
  have hlt : Rat.divInt c p < 1 := by
    have e2 : (1 : Rat) - Rat.divInt c p = Rat.divInt (p - c) p := by
      rw [Rat.divInt_eq_div, Rat.divInt_eq_div]
      have hne : (p : Rat) ≠ 0 := fun z => by
        have := Rat.intCast_pos.mpr hp
        rw [z] at this
        exact Rat.lt_irrefl this
      rw [Rat.intCast_sub, Rat.div_def, Rat.div_def, Rat.sub_eq_add_neg, Rat.sub_eq_add_neg, Rat.add_mul, Rat.mul_inv_cancel _ hne, Rat.neg_mul]
    have := divInt_pos (t := p - c) (b := p) (by omega) hp
    rw [← e2] at this
    grind
  have := (Rat.mul_lt_mul_left hW).mpr hlt
  rwa [Rat.mul_one] at this
theorem partQ_in {ns : List Int} {pl : List Phase} (h : ∀ ph, ph ∈ pl → 0 < ph.2) (hn : pl ≠ []) : 0 ≤ partQ ns pl (roundQ pl) ∧ partQ ns pl (roundQ pl) < roundQ pl := by
  have hl : 0 < pl.length := List.length_pos_iff.mpr hn
  unfold partQ
  split
  · have h1 := Int.emod_nonneg (cell ns 2 / 2) (show (pl.length : Int) ≠ 0 by omega)
    have h2 := Int.emod_lt_of_pos (cell ns 2 / 2) (show (0 : Int) < pl.length by omega)
    exact roundQ_take_lt h (by omega)
  · have h1 := Int.emod_nonneg (cell ns 2 / 2) (show (97 : Int) ≠ 0 by decide)
    have h2 := Int.emod_nonneg (cell ns 3) (show (1 + cell ns 2 / 2 % 97 : Int) ≠ 0 by omega)
    have h3 := Int.emod_lt_of_pos (cell ns 3) (show (0 : Int) < 1 + cell ns 2 / 2 % 97 by omega)
    exact frac_part _ (roundQ_pos h hn) _ _ h2 h3
end My

/-! ### sorted lists, crossings: plain -/
namespace My
open PySem PySem.Spec PyProof.Rows L2 GT
section
variable {α : Type} {lt : α → α → Bool}
def Anti (lt : α → α → Bool) : Prop := ∀ x y, lt x y = false → lt y x = false → x = y
theorem sorted_uniq (O : SrtO.Swo lt) (A : Anti lt) : ∀ {l m : List α}, SrtO.Srtd lt l → SrtO.Srtd lt m → l.Perm m → l = m
  | [], m, _, _, h => (List.Perm.eq_nil h.symm).symm
  | x :: l, [], _, _, h => absurd h.length_eq (by simp)
  | x :: l, y :: m, hl, hm, h => by
    have h1 : lt x y = false := by
      rcases List.mem_cons.mp (h.mem_iff.mp (List.mem_cons_self (a := x) (l := l))) with e | hx
      · rw [e]; exact O.refl y
      · exact SrtO.srtd_head hm x hx
    have h2 : lt y x = false := by
      rcases List.mem_cons.mp (h.mem_iff.mpr (List.mem_cons_self (a := y) (l := m))) with e | hy
      · rw [e]; exact O.refl x
      · exact SrtO.srtd_head hl y hy
    have e := A x y h1 h2
    subst e
    rw [sorted_uniq O A (List.pairwise_cons.mp hl).2 (List.pairwise_cons.mp hm).2 h.cons_inv]
def srt (lt : α → α → Bool) (xs : List α) : List α := xs.mergeSort fun a b => !lt b a
theorem srt_perm (xs : List α) : (srt lt xs).Perm xs := List.mergeSort_perm _ _
theorem srt_srtd (O : SrtO.Swo lt) (xs : List α) : SrtO.Srtd lt (srt lt xs) := by
  have h := List.pairwise_mergeSort (le := fun a b => !lt b a) (fun a b c h1 h2 => by
    have h1' : lt b a = false := by simpa using h1
    have h2' : lt c b = false := by simpa using h2
    simpa using O.tr a b c h1' h2') (fun a b => by
    cases hab : lt a b with
    | true => simp [O.asym a b hab]
    | false => simp) xs
  exact h.imp fun {a b} hab => by simpa using hab
theorem srt_of (O : SrtO.Swo lt) (A : Anti lt) {ys xs : List α} (h : ys.Perm xs) (hs : SrtO.Srtd lt ys) : ys = srt lt xs :=
  sorted_uniq O A hs (srt_srtd O xs) (h.trans (srt_perm xs).symm)
theorem srt_mem {xs : List α} {x : α} : x ∈ srt lt xs ↔ x ∈ xs := (srt_perm xs).mem_iff
theorem srt_len (xs : List α) : (srt lt xs).length = xs.length := (srt_perm xs).length_eq
theorem srt_congr (O : SrtO.Swo lt) (A : Anti lt) {xs ys : List α} (h : xs.Perm ys) : srt lt xs = srt lt ys := srt_of O A ((srt_perm xs).trans h) (srt_srtd O xs)
theorem nodup_perm {xs ys : List α} (hx : xs.Nodup) (hy : ys.Nodup) (h : ∀ z, z ∈ xs ↔ z ∈ ys) : xs.Perm ys := by
  classical
  exact (List.perm_ext_iff_of_nodup hx hy).mpr h
end
/-! lists of numbers -/
theorem lexL_swo : SrtO.Swo HT.lexLt := ⟨fun x y h => NtL.lex_asym x y h, fun x y z h1 h2 => NtL.lex_tr x y z h1 h2⟩
theorem lexL_anti : Anti HT.lexLt := by
  intro x
  induction x with
  | nil =>
    intro y h1 h2
    cases y with
    | nil => rfl
    | cons b ys => rw [HT.lexLt_nil_cons] at h1; cases h1
  | cons a xs ih =>
    intro y h1 h2
    cases y with
    | nil => rw [HT.lexLt_nil_cons] at h2; cases h2
    | cons b ys =>
      rw [HT.lexLt_cons] at h1 h2
      by_cases e : a = b
      · subst e
        rw [if_pos rfl] at h1 h2
        rw [ih ys h1 h2]
      · rw [if_neg e] at h1
        rw [if_neg (fun z => e z.symm)] at h2
        have n1 := of_decide_eq_false h1
        have n2 := of_decide_eq_false h2
        omega
abbrev srtG (xs : List (List Int)) : List (List Int) := srt HT.lexLt xs
/-! pairs -/
theorem lexB_swo : SrtO.Swo SrtO.lexB := ⟨fun x y h => by
  have := SrtO.lexB_iff.mp h
  exact SrtO.lexB_no.mpr (by omega), fun x y z h1 h2 => by
  have a := SrtO.lexB_no.mp h1
  have b := SrtO.lexB_no.mp h2
  exact SrtO.lexB_no.mpr (by omega)⟩
theorem lexB_anti : Anti SrtO.lexB := fun x y h1 h2 => by
  have a := SrtO.lexB_no.mp h1
  have b := SrtO.lexB_no.mp h2
  exact Prod.ext (by omega) (by omega)
abbrev srtP (ps : List (Int × Int)) : List (Int × Int) := srt SrtO.lexB ps
/-- sorted(set(..)) -/
def srtU (ps : List (Int × Int)) : List (Int × Int) := srtP ps.eraseDups
theorem eraseDups_nodup {α : Type} [BEq α] [LawfulBEq α] : ∀ (n : Nat) (xs : List α), xs.length ≤ n → xs.eraseDups.Nodup
  | 0, xs, h => by
    have : xs = [] := List.eq_nil_of_length_eq_zero (by omega)
    subst this
    exact List.nodup_nil
  | n + 1, [], _ => List.nodup_nil
  | n + 1, x :: xs, h => by
    rw [List.eraseDups_cons, List.nodup_cons]
    refine ⟨fun hm => ?_, eraseDups_nodup n _ ?_⟩
    · rw [List.mem_eraseDups, List.mem_filter] at hm
      simp at hm
    · refine Nat.le_trans (List.length_filter_le _ _) ?_
      rw [List.length_cons] at h
      omega
theorem srtU_mem {ps : List (Int × Int)} {p : Int × Int} : p ∈ srtU ps ↔ p ∈ ps := by
  unfold srtU
  rw [srt_mem, List.mem_eraseDups]
theorem srtU_of {ys ps : List (Int × Int)} (hm : ∀ p, p ∈ ys ↔ p ∈ ps) (hn : ys.Nodup) (hs : SrtO.Srtd SrtO.lexB ys) : ys = srtU ps :=
  srt_of lexB_swo lexB_anti (nodup_perm hn (eraseDups_nodup _ ps (Nat.le_refl _)) fun z => by rw [hm z, List.mem_eraseDups]) hs
theorem srtP_srtU {qs ps : List (Int × Int)} (hn : qs.Nodup) (hm : ∀ p, p ∈ qs ↔ p ∈ ps) : srtP qs = srtU ps :=
  srtU_of (fun p => by rw [srt_mem, hm p]) ((srt_perm qs).nodup_iff.mpr hn) (srt_srtd lexB_swo qs)
theorem srtU_nodup (ps : List (Int × Int)) : (srtU ps).Nodup := (srt_perm _).nodup_iff.mpr (eraseDups_nodup _ ps (Nat.le_refl _))
/-! crossings -/
structure Cr where
  n : Nat
  ps : List (Int × Int)
def mnI (i j : Int) : Int := if j < i then j else i
def mxI (i j : Int) : Int := if j > i then j else i
def norm (p : Int × Int) : Int × Int := (mnI p.1 p.2, mxI p.1 p.2)
theorem norm_sym (i j : Int) : norm (i, j) = norm (j, i) := by
  unfold norm mnI mxI
  dsimp only
  refine Prod.ext ?_ ?_ <;> dsimp only <;> split <;> split <;> omega
def crOf (n : Nat) (cl : List (Int × Int)) : Cr := ⟨n, (cl.map norm).foldl addP []⟩
/-- a pair of two unlike streams that are there -/
def okP (n : Nat) (p : Int × Int) : Prop := 0 ≤ p.1 ∧ p.1 < n ∧ 0 ≤ p.2 ∧ p.2 < n ∧ p.1 ≠ p.2
structure Cr.Ok (c : Cr) : Prop where
  n1 : 1 ≤ c.n
  n6 : c.n ≤ 6
  ps : ∀ p, p ∈ c.ps → 0 ≤ p.1 ∧ p.1 < p.2 ∧ p.2 < c.n
  nd : c.ps.Nodup
theorem addP_mem {ps : List (Int × Int)} {p q : Int × Int} : q ∈ addP ps p ↔ q ∈ ps ∨ q = p := by
  unfold addP
  split
  · constructor
    · exact .inl
    · rintro (h | h)
      · exact h
      · subst h; assumption
  · rw [List.mem_append, List.mem_singleton]
theorem addP_nodup {ps : List (Int × Int)} {p : Int × Int} (h : ps.Nodup) : (addP ps p).Nodup := by
  unfold addP
  split
  · exact h
  · rename_i hn
    rw [List.nodup_append]
    exact ⟨h, by simp, fun a ha b hb => by
      rw [List.mem_singleton.mp hb]
      rintro rfl
      exact hn ha⟩
theorem foldl_addP_mem : ∀ (xs ps : List (Int × Int)) (q : Int × Int), q ∈ xs.foldl addP ps ↔ q ∈ ps ∨ q ∈ xs
  | [], ps, q => by simp
  | x :: xs, ps, q => by
    rw [List.foldl_cons, foldl_addP_mem xs, addP_mem, List.mem_cons, or_assoc]
theorem foldl_addP_nodup : ∀ (xs ps : List (Int × Int)), ps.Nodup → (xs.foldl addP ps).Nodup
  | [], ps, h => h
  | x :: xs, ps, h => by
    rw [List.foldl_cons]
    exact foldl_addP_nodup xs _ (addP_nodup h)
theorem foldl_addP_len : ∀ (xs ps : List (Int × Int)), (xs.foldl addP ps).length ≤ ps.length + xs.length
  | [], ps => by simp
  | x :: xs, ps => by
    rw [List.foldl_cons, List.length_cons]
    refine Nat.le_trans (foldl_addP_len xs _) ?_
    unfold addP
    split
    · omega
    · rw [List.length_append, List.length_singleton]
      omega
theorem norm_ok {n : Nat} {p : Int × Int} (h : okP n p) : 0 ≤ (norm p).1 ∧ (norm p).1 < (norm p).2 ∧ (norm p).2 < n := by
  obtain ⟨h1, h2, h3, h4, h5⟩ := h
  unfold norm mnI mxI
  dsimp only
  split <;> split <;> refine ⟨?_, ?_, ?_⟩ <;> omega
theorem crOf_ok {n : Nat} {cl : List (Int × Int)} (h1 : 1 ≤ n) (h6 : n ≤ 6) (h : ∀ p, p ∈ cl → okP n p) : (crOf n cl).Ok := by
  refine ⟨h1, h6, fun p hp => ?_, foldl_addP_nodup _ _ List.nodup_nil⟩
  rcases (foldl_addP_mem _ _ _).mp hp with hp | hp
  · cases hp
  · obtain ⟨q, hq, rfl⟩ := List.mem_map.mp hp
    exact norm_ok (h q hq)
theorem crOf_mem {n : Nat} {cl : List (Int × Int)} {p : Int × Int} : p ∈ (crOf n cl).ps ↔ p ∈ cl.map norm := by
  unfold crOf
  rw [foldl_addP_mem]
  simp
/-- whether two clash -/
def clashB (c : Cr) (i j : Int) : Bool := decide (norm (i, j) ∈ c.ps)
theorem clashB_self {c : Cr} (h : c.Ok) (i : Int) : clashB c i i = false := by
  refine decide_eq_false fun hm => ?_
  have := (h.ps _ hm).2.1
  unfold norm mnI mxI at this
  dsimp only at this
  split at this <;> omega
theorem clashB_sym (c : Cr) (i j : Int) : clashB c i j = clashB c j i := by
  unfold clashB
  rw [norm_sym]
def togB (c : Cr) (g : List Int) : Bool := g.all fun i => g.all fun j => !clashB c i j
/-- the groups by the first k streams -/
def fgL (c : Cr) : Nat → List (List Int)
  | 0 => [[]]
  | k + 1 => fgL c k ++ ((fgL c k).filter fun g => togB c (g ++ [(k : Int)])).map (· ++ [(k : Int)])
def moreL (c : Cr) (g : List Int) : List Int := ((List.range c.n).filter fun (i : Nat) => !decide ((i : Int) ∈ g) && togB c (g ++ [(i : Int)])).map Int.ofNat
def fullL (c : Cr) : List (List Int) := (srtG (fgL c c.n)).filter fun g => decide (moreL c g = [])
/-- a group within n streams -/
def Asc (n : Nat) (g : List Int) : Prop := g.Pairwise (· < ·) ∧ ∀ i, i ∈ g → 0 ≤ i ∧ i < n
theorem togB_iff {c : Cr} {g : List Int} : togB c g = true ↔ ∀ i, i ∈ g → ∀ j, j ∈ g → clashB c i j = false := by
  unfold togB
  simp [List.all_eq_true]
theorem togB_snoc {c : Cr} {g : List Int} {k : Int} (h : togB c (g ++ [k]) = true) : togB c g = true := by
  rw [togB_iff] at h ⊢
  exact fun i hi j hj => h i (List.mem_append_left _ hi) j (List.mem_append_left _ hj)
theorem fgL_head (c : Cr) : ∀ k, ∃ r, fgL c k = [] :: r
  | 0 => ⟨[], rfl⟩
  | k + 1 => by
    obtain ⟨r, e⟩ := fgL_head c k
    rw [fgL, e]
    exact ⟨_, rfl⟩
theorem asc_snoc {n : Nat} {g : List Int} (h : Asc n g) : Asc (n + 1) (g ++ [(n : Int)]) := by
  refine ⟨List.pairwise_append.mpr ⟨h.1, by simp, fun a ha b hb => ?_⟩, fun i hi => ?_⟩
  · rw [List.mem_singleton.mp hb]
    exact (h.2 a ha).2
  · rcases List.mem_append.mp hi with hi | hi
    · have := h.2 i hi
      omega
    · rw [List.mem_singleton.mp hi]
      omega
theorem asc_up {n : Nat} {g : List Int} (h : Asc n g) : Asc (n + 1) g := ⟨h.1, fun i hi => by
  have := h.2 i hi
  omega⟩
/-- a rising group either ends with the last stream or has it not -/
theorem asc_split {n : Nat} {g : List Int} (h : Asc (n + 1) g) : Asc n g ∨ ∃ r, g = r ++ [(n : Int)] ∧ Asc n r := by
  rcases List.eq_nil_or_concat g with e | ⟨r, x, e⟩
  · subst e
    exact .inl ⟨List.Pairwise.nil, fun i hi => by cases hi⟩
  · rw [List.concat_eq_append] at e
    subst e
    obtain ⟨h1, h2⟩ := h
    obtain ⟨p1, _, p3⟩ := List.pairwise_append.mp h1
    have hx := h2 x (List.mem_append_right _ (List.mem_singleton.mpr rfl))
    have hr : ∀ i, i ∈ r → 0 ≤ i ∧ i < x := fun i hi => ⟨(h2 i (List.mem_append_left _ hi)).1, p3 i hi x (List.mem_singleton.mpr rfl)⟩
    by_cases e : x = (n : Int)
    · subst e
      exact .inr ⟨r, rfl, p1, hr⟩
    · refine .inl ⟨h1, fun i hi => ?_⟩
      rcases List.mem_append.mp hi with hi | hi
      · have := hr i hi
        omega
      · rw [List.mem_singleton.mp hi]
        omega
theorem fgL_mem (c : Cr) : ∀ (k : Nat) (g : List Int), g ∈ fgL c k ↔ Asc k g ∧ togB c g = true
  | 0, g => by
    rw [fgL, List.mem_singleton]
    constructor
    · rintro rfl
      exact ⟨⟨List.Pairwise.nil, fun i hi => by cases hi⟩, rfl⟩
    · rintro ⟨⟨_, h⟩, _⟩
      cases g with
      | nil => rfl
      | cons x g =>
        have := h x List.mem_cons_self
        omega
  | k + 1, g => by
    rw [fgL, List.mem_append, fgL_mem c k g]
    constructor
    · rintro (⟨h1, h2⟩ | h)
      · exact ⟨asc_up h1, h2⟩
      · obtain ⟨r, hr, rfl⟩ := List.mem_map.mp h
        obtain ⟨h1, h2⟩ := List.mem_filter.mp hr
        exact ⟨asc_snoc ((fgL_mem c k r).mp h1).1, h2⟩
    · rintro ⟨h1, h2⟩
      rcases asc_split h1 with h | ⟨r, e, h⟩
      · exact .inl ⟨h, h2⟩
      · subst e
        exact .inr (List.mem_map.mpr ⟨r, List.mem_filter.mpr ⟨(fgL_mem c k r).mpr ⟨h, togB_snoc h2⟩, h2⟩, rfl⟩)
theorem fgL_nodup (c : Cr) : ∀ k, (fgL c k).Nodup
  | 0 => by rw [fgL]; simp
  | k + 1 => by
    rw [fgL, List.nodup_append]
    refine ⟨fgL_nodup c k, ?_, fun a ha b hb => ?_⟩
    · exact List.pairwise_map.mpr (((fgL_nodup c k).filter _).imp fun {x y} hne e => hne (List.append_cancel_right e))
    · obtain ⟨r, hr, rfl⟩ := List.mem_map.mp hb
      rintro rfl
      have := ((fgL_mem c k _).mp ha).1.2 (k : Int) (List.mem_append_right _ (List.mem_singleton.mpr rfl))
      omega
theorem fgL_len (c : Cr) : ∀ k, (fgL c k).length ≤ 2 ^ k
  | 0 => by rw [fgL]; simp
  | k + 1 => by
    rw [fgL, List.length_append, List.length_map, Nat.pow_succ]
    have h1 := fgL_len c k
    have h2 := List.length_filter_le (fun g => togB c (g ++ [(k : Int)])) (fgL c k)
    omega
theorem asc_len {n : Nat} : ∀ {g : List Int}, Asc n g → g.length ≤ n := by
  induction n with
  | zero =>
    intro g h
    cases g with
    | nil => simp
    | cons x g =>
      have := h.2 x List.mem_cons_self
      omega
  | succ n ih =>
    intro g h
    rcases asc_split h with h' | ⟨r, e, h'⟩
    · have := ih h'
      omega
    · subst e
      have := ih h'
      rw [List.length_append, List.length_singleton]
      omega
theorem asc_in {n : Nat} {g : List Int} (h : Asc n g) : ∀ i, i ∈ g → 0 ≤ i ∧ i < n := h.2
theorem full_mem {c : Cr} {g : List Int} : g ∈ fullL c ↔ (Asc c.n g ∧ togB c g = true) ∧ moreL c g = [] := by
  unfold fullL
  rw [List.mem_filter, srt_mem, fgL_mem, decide_eq_true_eq]
theorem more_nil {c : Cr} {g : List Int} : moreL c g = [] ↔ ∀ i : Nat, i < c.n → (i : Int) ∉ g → togB c (g ++ [(i : Int)]) = false := by
  unfold moreL
  rw [List.map_eq_nil_iff, List.filter_eq_nil_iff]
  constructor
  · intro h i hi hg
    have := h i (List.mem_range.mpr hi)
    simpa [hg] using this
  · intro h i hi
    have := h i (List.mem_range.mp hi)
    by_cases hg : (i : Int) ∈ g
    · simp [hg]
    · simp [hg, this hg]
end My

/-! ### the laws' own crossings: plain -/
namespace My
open PySem PySem.Spec PyProof.Rows L2 GT
abbrev Pz := List (Int × Int) × Int × Int
def stepC (a : Int) (z : Pz) (b : Int) : Pz := (if decide (z.2.1 % 2 = 1) = true then z.1 ++ [if z.2.2 % 2 = 0 then (a, b) else (b, a)] else z.1, z.2.1 / 2, z.2.2 / 2)
def rowC (a : Nat) (z : Pz) (m : Nat) : Pz := (List.range m).foldl (fun z (i : Nat) => stepC a z ((a + 1 + i : Nat) : Int)) z
def pairsC (n : Nat) (z : Pz) (k : Nat) : Pz := (List.range k).foldl (fun z (a : Nat) => rowC a z (n - (a + 1))) z
theorem rowC_succ (a : Nat) (z : Pz) (m : Nat) : rowC a z (m + 1) = stepC a (rowC a z m) ((a + 1 + m : Nat) : Int) := by
  unfold rowC
  rw [List.range_succ, List.foldl_append]
  rfl
theorem pairsC_succ (n : Nat) (z : Pz) (k : Nat) : pairsC n z (k + 1) = rowC k (pairsC n z k) (n - (k + 1)) := by
  unfold pairsC
  rw [List.range_succ, List.foldl_append]
  rfl
/-- what a loop may add -/
structure PzOk (n : Nat) (m : Nat) (ps : List (Int × Int)) : Prop where
  ok : ∀ p, p ∈ ps → okP n p
  len : ps.length ≤ m
theorem stepC_ok {n m a b : Nat} {z : Pz} (h : PzOk n m z.1) (hab : a < b) (hb : b < n) : PzOk n (m + 1) (stepC a z b).1 := by
  unfold stepC
  dsimp only
  split
  · refine ⟨fun p hp => ?_, by rw [List.length_append]; have := h.len; show _ + 1 ≤ _; omega⟩
    rcases List.mem_append.mp hp with hp | hp
    · exact h.ok p hp
    · rw [List.mem_singleton.mp hp]
      split
      · exact ⟨by show (0 : Int) ≤ a; omega, by show (a : Int) < n; omega, by show (0 : Int) ≤ b; omega, by show (b : Int) < n; omega, by show (a : Int) ≠ b; omega⟩
      · exact ⟨by show (0 : Int) ≤ b; omega, by show (b : Int) < n; omega, by show (0 : Int) ≤ a; omega, by show (a : Int) < n; omega, by show (b : Int) ≠ a; omega⟩
  · exact ⟨h.ok, by have := h.len; omega⟩
theorem rowC_ok {n a : Nat} {z : Pz} {m : Nat} (h : PzOk n m z.1) : ∀ k, k ≤ n - (a + 1) → PzOk n (m + k) (rowC a z k).1
  | 0, _ => h
  | k + 1, hk => by
    rw [rowC_succ]
    have := rowC_ok (a := a) h k (by omega)
    exact stepC_ok (a := a) (b := a + 1 + k) this (by omega) (by omega)
def bnd (n : Nat) : Nat → Nat
  | 0 => 0
  | k + 1 => bnd n k + (n - (k + 1))
theorem pairsC_ok {n : Nat} {c t : Int} : ∀ k, k ≤ n → PzOk n (bnd n k) (pairsC n ([], c, t) k).1
  | 0, _ => ⟨(fun p hp => nomatch hp), Nat.le_refl _⟩
  | k + 1, hk => by
    rw [pairsC_succ]
    exact rowC_ok (pairsC_ok k (by omega)) _ (Nat.le_refl _)
theorem bnd_six : ∀ n, n ≤ 6 → ∀ k, k ≤ n → bnd n k ≤ 15 := by decide
def swapP (p : Int × Int) : Int × Int := (p.2, p.1)
theorem swap_ok {n : Nat} {p : Int × Int} (h : okP n p) : okP n (swapP p) := ⟨h.2.2.1, h.2.2.2.1, h.1, h.2.1, fun e => h.2.2.2.2 e.symm⟩
def quart (t : Int) : Int := if t = 0 then 0 else if t = 1 then 1 else if t = 2 then 2 else 15
/-- .. of a ring -/
def ringA (cell : Int) (n : Nat) (m : Nat) : List (Int × Int) := (List.range m).map fun (k : Nat) => (cell / 2 % 2 * ((n : Int) - 5) + (k : Int), cell / 2 % 2 * ((n : Int) - 5) + ((k : Int) + (1 + cell % 2)) % 5)
def ringB (cell : Int) (n : Nat) (m : Nat) : List (Int × Int) := ((List.range m).filter fun (k : Nat) => decide (cell / (2 : Int) ^ k / 4 % 2 = 1)).map fun (k : Nat) => (5 - 5 * (cell / 2 % 2 * ((n : Int) - 5)), cell / 2 % 2 * ((n : Int) - 5) + (k : Int))
def ringL (cell : Int) (n : Nat) : List (Int × Int) := ringA cell n 5 ++ if n = 6 then ringB cell n 5 else []
theorem ringA_succ (cell : Int) (n m : Nat) : ringA cell n (m + 1) = ringA cell n m ++ [(cell / 2 % 2 * ((n : Int) - 5) + (m : Int), cell / 2 % 2 * ((n : Int) - 5) + ((m : Int) + (1 + cell % 2)) % 5)] := by
  unfold ringA
  rw [List.range_succ, List.map_append]
  rfl
theorem ringB_succ (cell : Int) (n m : Nat) : ringB cell n (m + 1) = ringB cell n m ++ if decide (cell / (2 : Int) ^ m / 4 % 2 = 1) = true then [(5 - 5 * (cell / 2 % 2 * ((n : Int) - 5)), cell / 2 % 2 * ((n : Int) - 5) + (m : Int))] else [] := by
  unfold ringB
  rw [List.range_succ, filter_snoc]
theorem ringL_ok {cell : Int} {n : Nat} (h5 : 4 < n) (h6 : n ≤ 6) : PzOk n 15 (ringL cell n) := by
  have e1 := Int.emod_nonneg (cell / 2) (show (2 : Int) ≠ 0 by decide)
  have e2 := Int.emod_lt_of_pos (cell / 2) (show (0 : Int) < 2 by decide)
  have e3 := Int.emod_nonneg cell (show (2 : Int) ≠ 0 by decide)
  have e4 := Int.emod_lt_of_pos cell (show (0 : Int) < 2 by decide)
  have hf : cell / 2 % 2 * ((n : Int) - 5) = 0 ∨ (cell / 2 % 2 * ((n : Int) - 5) = 1 ∧ n = 6) := by
    rcases (show n = 5 ∨ n = 6 by omega) with h | h
    · subst h
      exact .inl (by simp)
    · subst h
      rcases (show cell / 2 % 2 = 0 ∨ cell / 2 % 2 = 1 by omega) with h | h
      · exact .inl (by rw [h]; rfl)
      · exact .inr ⟨by rw [h]; rfl, rfl⟩
  unfold ringL ringA ringB
  generalize cell / 2 % 2 * ((n : Int) - 5) = f at hf ⊢
  refine ⟨fun p hp => ?_, ?_⟩
  · rcases List.mem_append.mp hp with hp | hp
    · obtain ⟨k, hk, rfl⟩ := List.mem_map.mp hp
      have hk' := List.mem_range.mp hk
      unfold okP
      dsimp only
      omega
    · split at hp
      · obtain ⟨k, hk, rfl⟩ := List.mem_map.mp hp
        have hk' := List.mem_range.mp (List.mem_filter.mp hk).1
        unfold okP
        dsimp only
        omega
      · cases hp
  · rw [List.length_append, List.length_map, List.length_range]
    split
    · rw [List.length_map]
      have := List.length_filter_le (fun (k : Nat) => decide (cell / (2 : Int) ^ k / 4 % 2 = 1)) (List.range 5)
      rw [List.length_range] at this
      omega
    · simp
def clashesL (ns : List Int) (st : Int) (n : Nat) : List (Int × Int) :=
  if 4 < n ∧ cell ns st % 3 = 1 then ringL (cell ns st / 3) n
  else
    let z := pairsC n ([], cell ns st, cell ns (st + 1)) n
    let tw := z.1.take (quart (z.2.2 / 4 % 4)).toNat
    z.1.drop (z.2.2 % 4).toNat ++ z.1.take (z.2.2 % 4).toNat ++ if z.2.2 / 16 % 2 = 1 then tw.map swapP else tw
theorem clashesL_ok {ns : List Int} {st : Int} {n : Nat} (h6 : n ≤ 6) : PzOk n 30 (clashesL ns st n) := by
  unfold clashesL
  split
  · rename_i h
    have := ringL_ok (cell := cell ns st / 3) h.1 h6
    exact ⟨this.ok, by have := this.len; omega⟩
  · have h0 := pairsC_ok (n := n) (c := cell ns st) (t := cell ns (st + 1)) n (Nat.le_refl _)
    have h15 := Nat.le_trans h0.len (bnd_six n h6 n (Nat.le_refl _))
    dsimp only
    generalize pairsC n ([], cell ns st, cell ns (st + 1)) n = z at h0 h15 ⊢
    refine ⟨fun p hp => ?_, ?_⟩
    · rcases List.mem_append.mp hp with hp | hp
      · rcases List.mem_append.mp hp with hp | hp
        · exact h0.ok p (List.mem_of_mem_drop hp)
        · exact h0.ok p (List.mem_of_mem_take hp)
      · split at hp
        · obtain ⟨q, hq, rfl⟩ := List.mem_map.mp hp
          exact swap_ok (h0.ok q (List.mem_of_mem_take hq))
        · exact h0.ok p (List.mem_of_mem_take hp)
    · rw [List.length_append, List.length_append, List.length_drop, List.length_take]
      split
      · rw [List.length_map, List.length_take]
        omega
      · rw [List.length_take]
        omega
/-- the law's clash, by the list -/
def clB (cl : List (Int × Int)) (i j : Int) : Bool := decide ((i, j) ∈ cl) || decide ((j, i) ∈ cl)
theorem clB_iff {n : Nat} {cl : List (Int × Int)} {i j : Int} : clB cl i j = true ↔ norm (i, j) ∈ (crOf n cl).ps := by
  rw [crOf_mem]
  unfold clB
  rw [Bool.or_eq_true, decide_eq_true_eq, decide_eq_true_eq, List.mem_map]
  constructor
  · rintro (h | h)
    · exact ⟨_, h, rfl⟩
    · exact ⟨_, h, norm_sym j i⟩
  · rintro ⟨⟨x, y⟩, hq, e⟩
    have : (x = i ∧ y = j) ∨ (x = j ∧ y = i) := by
      unfold norm mnI mxI at e
      dsimp only at e
      obtain ⟨e1, e2⟩ := Prod.mk.inj e
      split at e1 <;> split at e1 <;> split at e2 <;> split at e2 <;> omega
    rcases this with ⟨rfl, rfl⟩ | ⟨rfl, rfl⟩
    · exact .inl hq
    · exact .inr hq
theorem clB_eq (n : Nat) (cl : List (Int × Int)) (i j : Int) : clB cl i j = clashB (crOf n cl) i j := by
  unfold clashB
  rw [Bool.eq_iff_iff, clB_iff (n := n), decide_eq_true_eq]
def ltogB (cl : List (Int × Int)) (g : List Int) : Bool := g.all fun i => g.all fun j => !(decide (i ≠ j) && clB cl i j)
theorem ltog_eq {n : Nat} {cl : List (Int × Int)} (h1 : 1 ≤ n) (h6 : n ≤ 6) (h : ∀ p, p ∈ cl → okP n p) (g : List Int) : ltogB cl g = togB (crOf n cl) g := by
  unfold ltogB togB
  have hc := crOf_ok h1 h6 h
  have e : ∀ i j, (!(decide (i ≠ j) && clB cl i j)) = !clashB (crOf n cl) i j := fun i j => by
    rw [clB_eq n]
    by_cases hij : i = j
    · subst hij
      rw [clashB_self hc]
      simp
    · simp [hij]
  simp only [e]
theorem ltog_iff {cl : List (Int × Int)} {g : List Int} : ltogB cl g = true ↔ ∀ i, i ∈ g → ∀ j, j ∈ g → (decide (i ≠ j) && clB cl i j) = false := by
  unfold ltogB
  rw [List.all_eq_true]
  constructor
  · intro h i hi j hj
    have := List.all_eq_true.mp (h i hi) j hj
    cases hh : (decide (i ≠ j) && clB cl i j) with
    | false => rfl
    | true => rw [hh] at this; cases this
  · intro h i hi
    refine List.all_eq_true.mpr fun j hj => ?_
    rw [h i hi j hj]
    rfl
/-- all groups, by their numbers -/
def groupsL (cl : List (Int × Int)) (n : Nat) : List (List Int) := ((List.range (2 ^ n)).map fun (m : Nat) => bitsN m n).filter (ltogB cl)
theorem bits_asc (m : Int) (n : Nat) : Asc n (bitsN m n) := by
  refine ⟨?_, fun i hi => ?_⟩
  · unfold bitsN
    refine List.pairwise_map.mpr ?_
    have h : ((List.range n).filter fun (i : Nat) => decide (m / (2 : Int) ^ i % 2 = 1)).Pairwise (· < ·) := List.pairwise_lt_range.filter _
    exact h.imp fun {a b} hab => by show (a : Int) < b; omega
  · unfold bitsN at hi
    obtain ⟨k, hk, rfl⟩ := List.mem_map.mp hi
    have := List.mem_range.mp (List.mem_filter.mp hk).1
    show (0 : Int) ≤ k ∧ (k : Int) < n
    omega
/-- the number of a rising group -/
def numOf : List Int → Nat
  | [] => 0
  | i :: g => 2 ^ i.toNat + numOf g
theorem numOf_app : ∀ g h : List Int, numOf (g ++ h) = numOf g + numOf h
  | [], h => by simp [numOf]
  | i :: g, h => by
    show 2 ^ i.toNat + numOf (g ++ h) = 2 ^ i.toNat + numOf g + numOf h
    rw [numOf_app g h]
    omega
theorem bits_low (m : Nat) : ∀ n, (∀ k : Nat, k < n → (m + 2 ^ n) / 2 ^ k % 2 = m / 2 ^ k % 2) := by
  intro n k hk
  have e : 2 ^ n = 2 ^ k * 2 * 2 ^ (n - k - 1) := by
    rw [Nat.mul_assoc, ← Nat.pow_succ', ← Nat.pow_add]
    congr 1
    omega
  rw [e, Nat.mul_assoc, Nat.add_mul_div_left _ _ (Nat.pow_pos (by decide)), Nat.add_mul_mod_self_left]
theorem natdiv (m k : Nat) : ((m : Int) / (2 : Int) ^ k % 2 = 1) ↔ m / 2 ^ k % 2 = 1 := by
  have e : ((2 : Int) ^ k) = ((2 ^ k : Nat) : Int) := by simp
  rw [e, ← Int.natCast_ediv]
  omega
theorem bits_num : ∀ (n : Nat) (g : List Int), Asc n g → numOf g < 2 ^ n ∧ bitsN (numOf g : Nat) n = g
  | 0, g, h => by
    cases g with
    | nil => exact ⟨by decide, rfl⟩
    | cons x g =>
      have := h.2 x List.mem_cons_self
      omega
  | n + 1, g, h => by
    rcases asc_split h with h' | ⟨r, e, h'⟩
    · obtain ⟨h1, h2⟩ := bits_num n g h'
      refine ⟨by rw [Nat.pow_succ]; omega, ?_⟩
      rw [bitsN_succ, h2, if_neg]
      rw [natdiv, Nat.div_eq_of_lt h1]
      decide
    · subst e
      obtain ⟨h1, h2⟩ := bits_num n r h'
      have en : numOf (r ++ [(n : Int)]) = numOf r + 2 ^ n := by
        rw [numOf_app]
        show numOf r + (2 ^ n + 0) = _
        omega
      rw [en]
      refine ⟨by rw [Nat.pow_succ]; omega, ?_⟩
      rw [bitsN_succ]
      have hb : bitsN ((numOf r + 2 ^ n : Nat) : Int) n = r := by
        refine Eq.trans ?_ h2
        unfold bitsN
        congr 1
        refine List.filter_congr fun k hk => ?_
        rw [decide_eq_decide, natdiv, natdiv, bits_low _ n k (List.mem_range.mp hk)]
      rw [hb, if_pos]
      rw [natdiv, Nat.add_div_right _ (Nat.pow_pos (by decide)), Nat.div_eq_of_lt h1]
theorem bits_inj {n a b : Nat} (ha : a < 2 ^ n) (hb : b < 2 ^ n) (h : bitsN a n = bitsN b n) : a = b := by
  have key : ∀ n a, a < 2 ^ n → numOf (bitsN (a : Nat) n) = a := by
    intro n
    induction n with
    | zero =>
      intro a ha
      have : a = 0 := by simpa using ha
      subst this
      rfl
    | succ n ih =>
      intro a ha
      rw [bitsN_succ]
      rcases Nat.lt_or_ge a (2 ^ n) with hl | hl
      · rw [if_neg, ih a hl]
        rw [natdiv, Nat.div_eq_of_lt hl]
        decide
      · have hs : a - 2 ^ n < 2 ^ n := by rw [Nat.pow_succ] at ha; omega
        have e : a = (a - 2 ^ n) + 2 ^ n := by omega
        have hd : ((a : Nat) : Int) / (2 : Int) ^ n % 2 = 1 := by
          rw [natdiv, e, Nat.add_div_right _ (Nat.pow_pos (by decide)), Nat.div_eq_of_lt hs]
        rw [if_pos hd, numOf_app]
        have hb : bitsN (a : Nat) n = bitsN ((a - 2 ^ n : Nat) : Int) n := by
          unfold bitsN
          congr 1
          refine List.filter_congr fun k hk => ?_
          rw [decide_eq_decide, natdiv, natdiv]
          conv => lhs; rw [e]
          rw [bits_low _ n k (List.mem_range.mp hk)]
        rw [hb, ih _ hs]
        show (a - 2 ^ n) + (2 ^ n + 0) = a
        omega
  rw [← key n a ha, ← key n b hb, h]
theorem groupsL_mem {cl : List (Int × Int)} {n : Nat} {g : List Int} : g ∈ groupsL cl n ↔ Asc n g ∧ ltogB cl g = true := by
  unfold groupsL
  rw [List.mem_filter, List.mem_map]
  constructor
  · rintro ⟨⟨m, _, rfl⟩, h⟩
    exact ⟨bits_asc m n, h⟩
  · rintro ⟨h1, h2⟩
    obtain ⟨h3, h4⟩ := bits_num n g h1
    exact ⟨⟨numOf g, List.mem_range.mpr h3, h4⟩, h2⟩
theorem groupsL_nodup (cl : List (Int × Int)) (n : Nat) : (groupsL cl n).Nodup := by
  unfold groupsL
  refine List.Pairwise.filter _ (List.pairwise_map.mpr ?_)
  have h : (List.range (2 ^ n)).Pairwise (fun a b => a ≠ b) := List.nodup_range
  exact h.imp_of_mem fun {a b} ha hb hne e => hne (bits_inj (List.mem_range.mp ha) (List.mem_range.mp hb) e)
/-- the law's groups are the program's -/
theorem groups_eq {cl : List (Int × Int)} {n : Nat} (h1 : 1 ≤ n) (h6 : n ≤ 6) (h : ∀ p, p ∈ cl → okP n p) : srtG (groupsL cl n) = srtG (fgL (crOf n cl) n) :=
  srt_congr lexL_swo lexL_anti (nodup_perm (groupsL_nodup cl n) (fgL_nodup _ n) fun g => by rw [groupsL_mem, fgL_mem, ltog_eq h1 h6 h])
theorem groupsL_head (cl : List (Int × Int)) (n : Nat) : ∃ r, groupsL cl n = [] :: r := by
  unfold groupsL
  obtain ⟨k, hk⟩ : ∃ k, 2 ^ n = k + 1 := ⟨2 ^ n - 1, by have := Nat.pow_pos (n := n) (show 0 < 2 by decide); omega⟩
  rw [hk, List.range_succ_eq_map, List.map_cons, List.filter_cons]
  have e0 : bitsN ((0 : Nat) : Int) n = [] := by
    unfold bitsN
    rw [List.map_eq_nil_iff, List.filter_eq_nil_iff]
    intro i _
    rw [decide_eq_true_eq, natdiv, Nat.zero_div]
    decide
  have e1 : ltogB cl [] = true := rfl
  rw [e0, if_pos e1]
  exact ⟨_, rfl⟩
end My

/-! ### sets of numbers, least and greatest of a tuple, by value -/
namespace SetX
open PySem PySem.Spec PyProof.Rows L2
section
variable {prog : Program} {w : World} {A : Around} {E : Value → Shared → Prop} {s : Shared} {l : Addr} {its : List Value} {ns : List Int}
theorem getD_at {i : Nat} (h : i < ns.length) : ns.getD i 0 = ns[i] := by rw [List.getD_eq_getElem?_getD, List.getElem?_eq_getElem h]; rfl
theorem getD_in {i : Nat} (h : i < ns.length) : ns.getD i 0 ∈ ns := getD_at h ▸ List.getElem_mem h
theorem int_place (hns : IntsAre its ns) (i : Nat) (v : Value) (e : its.toArray[i]? = some v) : ∃ t, v = .int (ns.getD i 0) t := hns.int_at i v (by rwa [List.getElem?_toArray] at e)
theorem tup_old {c : Array Value} (tup : s.heap.IsTuple l c) : l < s.heap.objs.size := let ⟨_, e, _⟩ := tup; Heap.lt_size e
/-- the iterator and the tuple lie within the heap -/
theorem below {o : Obj} (old : l < s.heap.objs.size) : ∀ b, b ∈ [s.heap.objs.size, l] → b < (s.heap.push o).objs.size := by
  intro b hb
  rw [Heap.size_push]
  exact (List.mem_cons.mp hb).elim (fun z => z ▸ Nat.lt_succ_self _) fun z => (List.mem_singleton.mp z) ▸ Nat.lt_succ_of_lt old
/-- only the iterator was turned -/
theorem stays {o : Obj} {h' : Heap} (k : ∀ b u, b ∉ [s.heap.objs.size] → (s.heap.push o).get? b = some u → h'.get? b = some u) (b : Addr) (u : Obj) (e : s.heap.get? b = some u) : h'.get? b = some u :=
  k b u (fun m => Nat.ne_of_lt (Heap.lt_size e) (List.mem_singleton.mp m)) (Heap.get?_push_of_some _ e)
theorem min_rawT {Q : Value → Shared → Prop} (calm : A.handled = none) (tup : s.heap.IsTuple l its.toArray) (hns : IntsAre its ns) (some' : 0 < ns.length) (k : ∀ h' tk m t, (∀ b o, s.heap.get? b = some o → h'.get? b = some o) → m ∈ ns → (∀ y, y ∈ ns → m ≤ y) → Q (.int m t) { s with heap := h', toks := tk }) :
    wpAny (model prog w) A (call (.builtin "min") [.ref l]) Q E s := by
  have old := tup_old tup
  have sz := hns.length
  refine call_min_walk (wpAny_pyIter_tuple tup ⟨s.heap.objs.size, _, _, its.toArray.size, _, _, _, rfl, Walks.tuple (A := A.in1) calm _ l (Nat.ne_of_lt old) its.toArray, ⟨⟨_, Heap.get?_push_size _ rfl, rfl, rfl⟩, tup.push _⟩, below old, by rw [List.size_toArray]; omega, CmpOf.ints_lt (fun i => ns.getD i 0) (int_place hns), fun v h' tk e stay => ?_⟩)
  obtain ⟨t, rfl⟩ := int_place hns _ v e
  obtain ⟨b1, b2⟩ := argBest_lt (fun i => ns.getD i 0) (its.toArray.size - 1)
  rw [List.size_toArray] at b1 b2
  refine k h' tk _ t (stays stay) (getD_in (by rw [List.size_toArray]; omega)) fun y hy => ?_
  obtain ⟨i, hi, rfl⟩ := List.getElem_of_mem hy
  rw [List.size_toArray, ← getD_at hi]
  exact b2 i (by omega)
theorem max_rawT {Q : Value → Shared → Prop} (calm : A.handled = none) (tup : s.heap.IsTuple l its.toArray) (hns : IntsAre its ns) (some' : 0 < ns.length) (k : ∀ h' tk m t, (∀ b o, s.heap.get? b = some o → h'.get? b = some o) → m ∈ ns → (∀ y, y ∈ ns → y ≤ m) → Q (.int m t) { s with heap := h', toks := tk }) :
    wpAny (model prog w) A (call (.builtin "max") [.ref l]) Q E s := by
  have old := tup_old tup
  have sz := hns.length
  refine call_max_walk (wpAny_pyIter_tuple tup ⟨s.heap.objs.size, _, _, its.toArray.size, _, _, _, rfl, Walks.tuple (A := A.in1) calm _ l (Nat.ne_of_lt old) its.toArray, ⟨⟨_, Heap.get?_push_size _ rfl, rfl, rfl⟩, tup.push _⟩, below old, by rw [List.size_toArray]; omega, CmpOf.ints_gt (fun i => ns.getD i 0) (int_place hns), fun v h' tk e stay => ?_⟩)
  obtain ⟨t, rfl⟩ := int_place hns _ v e
  obtain ⟨b1, b2⟩ := argBest_gt (fun i => ns.getD i 0) (its.toArray.size - 1)
  rw [List.size_toArray] at b1 b2
  refine k h' tk _ t (stays stay) (getD_in (by rw [List.size_toArray]; omega)) fun y hy => ?_
  obtain ⟨i, hi, rfl⟩ := List.getElem_of_mem hy
  rw [List.size_toArray, ← getD_at hi]
  exact b2 i (by omega)
end
section
variable {X : Cx}
def rMinT (K : PySem.W.Frag) : List V → Hp → VK → Prop := fun vs H Q => ∃ (a : Addr) (ns : List Int), vs = [V.ref a] ∧ SqT K H a (ns.map V.int) ∧ 0 < ns.length ∧ ∀ m, m ∈ ns → (∀ y, y ∈ ns → m ≤ y) → Q (.int m) H
def rMaxT (K : PySem.W.Frag) : List V → Hp → VK → Prop := fun vs H Q => ∃ (a : Addr) (ns : List Int), vs = [V.ref a] ∧ SqT K H a (ns.map V.int) ∧ 0 < ns.length ∧ ∀ m, m ∈ ns → (∀ y, y ∈ ns → y ≤ m) → Q (.int m) H
theorem cr_minT (hc : X.calm = true) : CallR X (.builtin "min") (rMinT X.K) := by
  intro pins s σ H vs us Q I r h
  obtain ⟨a, ns, rfl, hs, hne, q⟩ := h
  obtain ⟨its, rv, hl, _⟩ := I.tuple hs
  rw [Vals.ref1 r]
  exact min_rawT (I.ok.hd hc) (show s.heap.IsTuple a its.toArray from hl) rv.ints hne fun h' tk m t' hk h1 h2 => ⟨.int _, H, I.kept hk, ⟨_, rfl⟩, q m h1 h2⟩
theorem cr_maxT (hc : X.calm = true) : CallR X (.builtin "max") (rMaxT X.K) := by
  intro pins s σ H vs us Q I r h
  obtain ⟨a, ns, rfl, hs, hne, q⟩ := h
  obtain ⟨its, rv, hl, _⟩ := I.tuple hs
  rw [Vals.ref1 r]
  exact max_rawT (I.ok.hd hc) (show s.heap.IsTuple a its.toArray from hl) rv.ints hne fun h' tk m t' hk h1 h2 => ⟨.int _, H, I.kept hk, ⟨_, rfl⟩, q m h1 h2⟩
/-- set(t), t a tuple of ints -/
def rSetI (K : PySem.W.Frag) (w : World) : List V → Hp → VK → Prop := fun vs H Q => ∃ (t : Addr) (ns : List Int), vs = [V.ref t] ∧ SqT K H t (ns.map V.int) ∧ ns.length ≤ 60 ∧ ∀ a n, H a = none → n ≤ ns.length → Q (.ref a) (upd H a (SetO w a (fun j => decide (j ∈ ns)) n))
theorem cr_setI (hc : X.calm = true) : CallR X (.type "set") (rSetI X.K X.w) := by
  intro pins s σ H vs us Q I r h
  obtain ⟨t, ns, rfl, hq, hl, q⟩ := h
  rw [Vals.ref1 r]
  obtain ⟨its, rv, pt, hz⟩ := I.tuple hq
  refine call_set_tupI ns (I.ok.hd hc) (show s.heap.IsTuple t its.toArray from pt) rv.ints (by unfold scanBound; omega) fun h' tk c R1 hcn k => ?_
  exact ⟨.ref s.heap.objs.size, upd H s.heap.objs.size (SetO X.w s.heap.objs.size (fun j => decide (j ∈ ns)) c), I.laid (t' := tk) k (Nat.le_refl _) (setO_new R1), rfl, q _ c (I.hok.fresh (Nat.le_refl _)) hcn⟩
end
end SetX
namespace My
open PySem PySem.Spec PyProof.Rows L2 GT SetX
section
variable {w : World} {K : Fg} {B : Hp} {O : Own} {L : Sl} {te ta tb tx td : TE} {P : Program}
theorem rising_uniq : ∀ {xs ys : List Int}, xs.Pairwise (· < ·) → ys.Pairwise (· < ·) → (∀ z, z ∈ xs ↔ z ∈ ys) → xs = ys
  | [], [], _, _, _ => rfl
  | [], y :: ys, _, _, h => absurd ((h y).mpr List.mem_cons_self) (by simp)
  | x :: xs, [], _, _, h => absurd ((h x).mp List.mem_cons_self) (by simp)
  | x :: xs, y :: ys, hx, hy, h => by
    obtain ⟨hx1, hx2⟩ := List.pairwise_cons.mp hx
    obtain ⟨hy1, hy2⟩ := List.pairwise_cons.mp hy
    have e : x = y := by
      rcases List.mem_cons.mp ((h x).mp List.mem_cons_self) with e | h1
      · exact e
      · rcases List.mem_cons.mp ((h y).mpr List.mem_cons_self) with e | h2
        · exact e.symm
        · have := hy1 x h1
          have := hx1 y h2
          omega
    subst e
    rw [rising_uniq hx2 hy2 fun z => ?_]
    constructor
    · intro hz
      rcases List.mem_cons.mp ((h z).mp (List.mem_cons_of_mem _ hz)) with e | h1
      · have := hx1 z hz
        omega
      · exact h1
    · intro hz
      rcases List.mem_cons.mp ((h z).mpr (List.mem_cons_of_mem _ hz)) with e | h1
      · have := hy1 z hz
        omega
      · exact h1
/-- sorted(set(t)) -/
theorem ev_sortSetI {g ms : List Int} (h : Ev K B O L ta (.dat (dG g))) (hl : g.length ≤ 60) (hs : ms.Pairwise (· < ·)) (hm : ∀ k, k ∈ ms ↔ k ∈ g) : Ev K B O L (tCB (rSortedSet w) (tCons (tCB (rSetI K w) (tCons ta tNil)) tNil)) (.new (.lst (ms.map .int))) := fun σ H s Q q =>
  h σ H s _ fun v H1 e1 r1 => by
    obtain ⟨t, xs, rfl, ht, hd⟩ := tup_inv r1
    have := hd.ints g
    subst this
    refine ⟨t, g, rfl, ht, hl, fun a n ha hn => ?_⟩
    refine ⟨a, _, n, rfl, upd_same, by omega, fun ns p h1 h2 h3 hp => ?_⟩
    have e : ns = ms := rising_uniq h1 hs fun z => by rw [h2, decide_eq_true_eq, hm]
    subst e
    have e2 : Same H (upd (upd H1 a (SetO w a (fun j => decide (j ∈ g)) n)) p (.lst (ns.map V.int))) := (e1.trans (Same.new ha)).trans (Same.new hp)
    exact q _ _ e2 ⟨p, rfl, (e1.trans (Same.new ha)).free hp, _, upd_same, TpA.of_ints ns⟩
theorem ev_minT {g : List Int} {m : Int} (h : Ev K B O L ta (.dat (dG g))) (hm : IsMin g m) : Ev K B O L (tCB (rMinT K) (tCons ta tNil)) (.dat (.int m)) := fun σ H s Q q =>
  h σ H s _ fun v H1 e1 r1 => by
    obtain ⟨t, xs, rfl, ht, hd⟩ := tup_inv r1
    have := hd.ints g
    subst this
    exact ⟨t, g, rfl, ht, List.length_pos_of_mem hm.1, fun k h1 h2 => by
      rw [IsMin.one ⟨h1, h2⟩ hm]
      exact q _ H1 e1 (.int _)⟩
theorem ev_maxT {g : List Int} {m : Int} (h : Ev K B O L ta (.dat (dG g))) (hm : IsMax g m) : Ev K B O L (tCB (rMaxT K) (tCons ta tNil)) (.dat (.int m)) := fun σ H s Q q =>
  h σ H s _ fun v H1 e1 r1 => by
    obtain ⟨t, xs, rfl, ht, hd⟩ := tup_inv r1
    have := hd.ints g
    subst this
    exact ⟨t, g, rfl, ht, List.length_pos_of_mem hm.1, fun k h1 h2 => by
      rw [IsMax.one ⟨h1, h2⟩ hm]
      exact q _ H1 e1 (.int _)⟩
theorem norm_min (p : Int × Int) : IsMin [p.1, p.2] (norm p).1 := by
  unfold norm mnI IsMin
  dsimp only
  split <;> simp <;> omega
theorem norm_max (p : Int × Int) : IsMax [p.1, p.2] (norm p).2 := by
  unfold norm mxI IsMax
  dsimp only
  split <;> simp <;> omega
/-! sorted(set(a list of pairs)) -/
theorem zip_pr {H : Hp} : ∀ {vs : List V} {ps : List (Int × Int)}, TpA K H vs (ps.map dPr) → ∃ zs : List (Addr × List Int), zs.map (fun p => V.ref p.1) = vs ∧ zs.map (·.2) = ps.map (fun p => [p.1, p.2]) ∧ ∀ y, y ∈ zs → SqT K H y.1 (y.2.map V.int)
  | [], [], _ => ⟨[], rfl, rfl, fun y hy => by cases hy⟩
  | [], _ :: _, h => by cases h
  | _ :: _, [], h => by cases h
  | v :: vs, p :: ps, h => by
    cases h with
    | cons r t =>
      obtain ⟨zs, h1, h2, h3⟩ := zip_pr t
      obtain ⟨a, xs, rfl, h4, h5⟩ := tup_inv r
      have := h5.ints [p.1, p.2]
      subst this
      refine ⟨(a, [p.1, p.2]) :: zs, by rw [List.map_cons, h1], by rw [List.map_cons, h2, List.map_cons], fun y hy => ?_⟩
      rcases List.mem_cons.mp hy with e | hy
      · subst e
        exact h4
      · exact h3 y hy
theorem of_zip_pr {H : Hp} : ∀ {zs : List (Addr × List Int)} {qs : List (Int × Int)}, zs.map (·.2) = qs.map (fun p => [p.1, p.2]) → (∀ y, y ∈ zs → SqT K H y.1 (y.2.map V.int)) → TpA K H (zs.map fun q => V.ref q.1) (qs.map dPr)
  | [], [], _, _ => .nil
  | [], _ :: _, h, _ => by cases h
  | _ :: _, [], h, _ => by cases h
  | z :: zs, q :: qs, h, h2 => by
    rw [List.map_cons, List.map_cons] at h
    obtain ⟨e1, e2⟩ := List.cons.inj h
    refine .cons ?_ (of_zip_pr e2 fun y hy => h2 y (List.mem_cons_of_mem _ hy))
    have := h2 z List.mem_cons_self
    rw [e1] at this
    exact .tup this (TpA.of_ints [q.1, q.2])
def toPr (x : List Int) : Int × Int := (x.getD 0 0, x.getD 1 0)
theorem ev_sortSetPL {ps : List (Int × Int)} {rr : Rs} (h : Ev K B O L ta rr) (hL : Ls K B O rr (ps.map dPr)) (hl : ps.length < 64) (hb : ∀ p, p ∈ ps → (0 ≤ p.1 ∧ p.1 < 64) ∧ 0 ≤ p.2 ∧ p.2 < 64) : Ev K B O L (tCB (rSortedT K P w) (tCons (tCB (rSetOfT K P w) (tCons ta tNil)) tNil)) (.new (.lst ((srtU ps).map dPr))) := fun σ H s Q q =>
  h σ H s _ fun v H1 e1 r1 => by
    obtain ⟨p, vs, hv, hp1, hp2⟩ := hL L σ H H1 v s e1 r1
    subst hv
    obtain ⟨zs, z1, z2, z3⟩ := zip_pr hp2
    have zl : zs.length = ps.length := by
      have := congrArg List.length z2
      simpa using this
    refine ⟨p, zs, rfl, by rw [z1]; exact hp1, z3, by omega, fun a Lz ha hs hall => ?_⟩
    have pr : ∀ z, z ∈ zs → ∃ q, q ∈ ps ∧ z.2 = [q.1, q.2] := fun z hz => by
      have : z.2 ∈ zs.map (·.2) := List.mem_map.mpr ⟨z, hz, rfl⟩
      rw [z2] at this
      obtain ⟨q, hq, e⟩ := List.mem_map.mp this
      exact ⟨q, hq, e.symm⟩
    refine ⟨a, Lz, 2, 64, rfl, upd_same, fun y hy => keep_t (.of (Same.new ha)) (z3 y (hs y hy)), by decide, fun y hy => ?_, fun L' pl pm hnd hfew pw hpl => ?_⟩
    · obtain ⟨q, hq, e⟩ := pr y (hs y hy)
      have hq' := hb q hq
      rw [e]
      exact ⟨rfl, fun x hx => by
        rcases List.mem_cons.mp hx with e | hx
        · rw [e]; exact hq'.1
        · rw [List.mem_singleton.mp hx]; exact hq'.2⟩
    · have e2 : Same H (upd (upd H1 a (SetTO P w a Lz)) pl (.lst (L'.map fun q => V.ref q.1))) := (e1.trans (Same.new ha)).trans (Same.new hpl)
      have hmem : ∀ y, y ∈ L' → y ∈ zs := fun y hy => hs y (pm.mem_iff.mp hy)
      have key : L'.map (·.2) = (srtU ps).map (fun p => [p.1, p.2]) := by
        have e3 : L'.map (·.2) = (L'.map fun y => toPr y.2).map (fun p => [p.1, p.2]) := by
          rw [List.map_map]
          refine List.map_congr_left fun y hy => ?_
          obtain ⟨q, hq, e⟩ := pr y (hmem y hy)
          show y.2 = [(toPr y.2).1, (toPr y.2).2]
          rw [e]
          rfl
        have e4 : (L'.map fun y => toPr y.2) = srtU ps := by
          refine srtU_of (fun q => ?_) ?_ ?_
          · constructor
            · intro hq
              obtain ⟨y, hy, rfl⟩ := List.mem_map.mp hq
              obtain ⟨q, hq, e⟩ := pr y (hmem y hy)
              rw [e]
              exact hq
            · intro hq
              have h1 : [q.1, q.2] ∈ zs.map (·.2) := by
                rw [z2]
                exact List.mem_map.mpr ⟨q, hq, rfl⟩
              obtain ⟨y, hy, e⟩ := List.mem_map.mp h1
              have h2 := hall y hy
              obtain ⟨u, hu, e5⟩ := List.mem_map.mp h2
              refine List.mem_map.mpr ⟨u, pm.mem_iff.mpr hu, ?_⟩
              show toPr u.2 = q
              have e6 : u.2 = [q.1, q.2] := e5.trans e
              rw [e6]
              rfl
          · rw [e3] at hnd
            exact (List.pairwise_map.mp hnd).imp fun {x y} hne e => hne (by rw [e])
          · refine List.pairwise_map.mpr (List.Pairwise.imp_of_mem (fun {x y} hx hy hle => ?_) pw)
            obtain ⟨q, hq, e5⟩ := pr x (hmem x hx)
            obtain ⟨r, hr, e6⟩ := pr y (hmem y hy)
            have bq := hb q hq
            have br := hb r hr
            rw [e5, e6, code_pair, code_pair] at hle
            rw [e5, e6]
            show SrtO.lexB r q = false
            refine SrtO.lexB_no.mpr ?_
            omega
        rw [e3, e4]
      exact q _ _ e2 ⟨pl, rfl, (e1.trans (Same.new ha)).free hpl, _, upd_same, of_zip_pr key fun y hy => keep_t (.of ((Same.new ha).trans (Same.new hpl))) (z3 y (hmem y hy))⟩
theorem ev_sortSetP {ps : List (Int × Int)} (h : Ev K B O L ta (.new (.lst (ps.map dPr)))) (hl : ps.length < 64) (hb : ∀ p, p ∈ ps → (0 ≤ p.1 ∧ p.1 < 64) ∧ 0 ≤ p.2 ∧ p.2 < 64) : Ev K B O L (tCB (rSortedT K P w) (tCons (tCB (rSetOfT K P w) (tCons ta tNil)) tNil)) (.new (.lst ((srtU ps).map dPr))) := ev_sortSetPL h Ls.new hl hb
end
end My

/-! ### list(reversed(a tuple)) -/
namespace RevX
open PySem PySem.Spec PyProof.Rows L2 RT
theorem nolen_rt : typeLookup (.type "reversed") "__len__" = pure none := by rw [typeLookup_type, builtinLookup_eq_fast]; kernel_rfl
theorem slot_rt_hint : Slot "reversed" "__length_hint__" "reversed.__length_hint__" :=
  .of (owner := "reversed") (n := "__length_hint__") (by rw [typeLookup_type, builtinLookup_eq_fast]; kernel_rfl) (by decide +kernel) (by decide +kernel) (by decide +kernel)
    (by first | exact .inl (by decide +kernel) | exact .inr (by decide +kernel)) (by rw [isSubtype_type]; kernel_rfl)
theorem entry_rt_hint : entryFor table "reversed.__length_hint__" = some Builtin.«reversed.__length_hint__» := entryFor_of_tree (by kernel_rfl)
theorem args_rt_hint (a : Value) : argsOk "reversed.__length_hint__" ⟨[a], []⟩ := by
  unfold argsOk; rw [signature?_of (id := "reversed.__length_hint__") (n := "__length_hint__".toList.reverse) (o := ['d', 'e', 's', 'r', 'e', 'v', 'e', 'r']) (by kernel_rfl) owner_rt]; kernel_rfl
section
variable {prog : Program} {w : World} {A : Around} {E : Value → Shared → Prop} {s : Shared}
theorem call_hint {it t : Addr} {items : Array Value} {Q : Value → Shared → Prop} (hit : IsRt s.heap it t ((items.size : Int) - 1)) (ht : IsTup s.heap t items) (hn : items.size ≤ 1000)
    (h : ∀ tk tk', Q (.int (items.size : Nat) tk) { s with toks := tk' }) : wpAny (model prog w) A (call (.builtin "reversed.__length_hint__") [.ref it]) Q E s := by
  refine wpAny_call_entry slot_rt_hint hit.typeIs entry_rt_hint ?_ (args_rt_hint _)
  obtain ⟨o, ho, hc, hd⟩ := id hit
  unfold Builtin.«reversed.__length_hint__»
  refine wpAny_bind (wpAny_of_eq (a := Value.ref it) rfl ?_)
  try dsimp only
  refine wpAny_bind (wpAny_field ho hd (x := .ref t) rfl ?_)
  try dsimp only
  refine wp_if_neg (by first | decide | simp) ?_
  refine wpAny_bind (PyProof.Rows.len_tuple ht (by omega) ?_)
  refine wpAny_bind (wpAny_of_eq (a := some ((items.size : Nat) : Int)) rfl ?_)
  try dsimp only
  refine wpAny_bind (wpAny_field (s := { s with toks := s.toks + 1 + 1 }) ho hd (x := rawInt ((items.size : Int) - 1)) rfl ?_)
  show wpAny _ _ (if ((items.size : Nat) : Int) < (items.size : Int) - 1 + 1 then _ else retInt ((items.size : Int) - 1 + 1)) _ _ _
  rw [if_neg (by omega), show (items.size : Int) - 1 + 1 = (items.size : Nat) from by omega]
  unfold retInt
  refine wpAny_bind (wpAny_mkInt ?_)
  exact wpAny_pure ⟨_, rfl, h _ _⟩
theorem list_hint {it t : Addr} {items : Array Value} {Q : Bool → Shared → Prop} (hit : IsRt s.heap it t ((items.size : Int) - 1)) (ht : IsTup s.heap t items) (hn : items.size ≤ 1000)
    (h : ∀ tk', Q (decide (items.size ≠ 0)) { s with toks := tk' }) : wpAny (model prog w) A (Builtin.List.listLengthHint (.ref it)) Q E s := by
  have hT := hit.typeIs
  unfold Builtin.List.listLengthHint
  refine wpAny_bind (wpAny_specialOf hT nolen_rt ?_)
  show wpAny _ A (specialOf (Value.ref it) (Str.ofString "__length_hint__") >>= _) _ _ _
  refine wpAny_bind (wpAny_specialOf hT slot_rt_hint.lookup ?_)
  generalize hid : ("reversed.__length_hint__" : String) = id0
  wp_delta
  rw [show splitId id0 = some ("reversed", "__length_hint__") from by subst hid; decide +kernel]
  subst hid
  refine wpAny_bind (wpAny_isInstance (b := true) hT (by rw [isSubtype_type]; kernel_rfl) ?_)
  refine wp_if_neg (by decide) ?_
  refine wp_if_neg ?_ ?_
  · show ¬ (_ = true)
    decide +kernel
  refine wpAny_bind (wpAny_rule ?_)
  refine wpAny_bind (wpAny_of_eq (slot_rt_hint.bind _) ?_)
  try dsimp only
  refine wpAny_bind (wpAny_attempt (call_hint hit ht hn fun tk tk' => ?_))
  have hN : ((items.size : Nat) : Int) ≤ 1000 := by omega
  have hN0 : (0 : Int) ≤ ((items.size : Nat) : Int) := by omega
  have hD : decide (items.size ≠ 0) = (((items.size : Nat) : Int) != 0) := by
    cases hz : items.size with
    | zero => rfl
    | succ k => simp; omega
  rw [hD] at h
  generalize ((items.size : Nat) : Int) = N at hN hN0 h ⊢
  refine wpAny_bind (m := asInt? (Value.int N tk)) (wpAny_of_eq (a := some N) rfl ?_)
  dsimp only
  refine wp_if_neg ?_ ?_
  · have h1 : Builtin.List.listFitsIndex N = true := by
      unfold Builtin.List.listFitsIndex
      rw [Bool.and_eq_true_iff, decide_eq_true_eq, decide_eq_true_eq]
      omega
    rw [h1]
    decide
  refine wp_if_neg (by omega) ?_
  refine wp_if_neg ?_ ?_
  · have h1 : Builtin.List.listTooLong N.toNat = false := by
      unfold Builtin.List.listTooLong
      rw [decide_eq_false_iff_not, sizeLine_eq]
      omega
    rw [h1]
    decide
  exact wpAny_pure (h _)
theorem walks_tupRev (hh : A.handled = none) (I t : Addr) (hne : t ≠ I) (items : Array Value) (hn : items.size ≤ sizeLine) :
    Walks prog w A I [I, t] [I] items.size (fun i v => items[items.size - 1 - i]? = some v) (fun i h => i ≤ items.size ∧ IsRt h I t ((items.size : Int) - 1 - (i : Int)) ∧ IsTup h t items) where
  sub := fun b hb => by simp at hb; simp [hb]
  frame := fun _ _ _ x hk => ⟨x.1, x.2.1.at fun o e => hk I (by simp) o e, let ⟨o, ho, r⟩ := x.2.2; ⟨o, hk t (by simp) o ho, r⟩⟩
  item := fun i s Q E hi x hQ => by
    have e : (items.size : Int) - 1 - (i : Int) = ((items.size - 1 - i : Nat) : Int) := by omega
    have hit := x.2.1
    rw [e] at hit
    have hx : items[items.size - 1 - i]? = some (items[items.size - 1 - i]'(by omega)) := Array.getElem?_eq_getElem (by omega)
    refine next_rt_item hit x.2.2 hx hn fun h' hit' hs' => ?_
    have e2 : ((items.size - 1 - i : Nat) : Int) - 1 = (items.size : Int) - 1 - ((i + 1 : Nat) : Int) := by omega
    rw [e2] at hit'
    exact hQ _ h' (s.toks + 1) hx ⟨hi, hit', let ⟨o, ho, r⟩ := x.2.2; ⟨o, (hs'.2 t hne).trans ho, r⟩⟩ fun b o hb eo => hs'.extBut b o (fun h => hb (by simp [h])) eo
  done := fun s Q E x hQ => by
    have e : (items.size : Int) - 1 - (items.size : Int) = -1 := by omega
    have hit := x.2.1
    rw [e] at hit
    exact next_rt_end hh hit fun h' he' => hQ h' s.toks fun b o hb e => he' b o (fun h => hb (by simp [h])) e
  self := fun _ _ _ _ st hQ => iter_rt st.2.1 hQ
/-- the list grows by what is walked -/
theorem extend_rev {R : Result → Shared → Prop} {it t : Addr} {items : Array Value} (hh : A.handled = none) (hit : IsRt s.heap it t ((items.size : Int) - 1)) (ht : IsTup s.heap t items) (hne : t ≠ it) (hn : items.size ≤ 1000) (S : Addr) (res : Value) (c₀ : Nat)
    (hS : s.heap.get? S = some { cls := .type "list", data := .seq #[] c₀ })
    (hR : ∀ h' tk acc' c', (∀ b o, b ≠ S → b ≠ it → s.heap.get? b = some o → h'.get? b = some o) → h'.get? S = some { cls := .type "list", dict := none, data := .seq acc' c', slots := #[] } →
      ItemsOf (fun i v => items[items.size - 1 - i]? = some v) acc' items.size → R (.ok (.ret res)) { s with heap := h', toks := tk }) :
    wpAny (model prog w) A.in1 (Builtin.List.listExtendWith (.ref S) (.ref it) res)
      (fun fin s' => match fin with | .done f => R (.ok f) s' | .again c' => c'.quiet = true ∧ codeAny (model prog w) A c' R s') (fun e s' => R (.error e) s') s := by
  have hsl : items.size ≤ sizeLine := by rw [sizeLine_eq]; omega
  obtain ⟨ot, hot, htc, ht2⟩ := id ht
  have hSt : S ≠ t := fun e => by
    rw [e, hot] at hS
    cases hS
    simp at htc
  obtain ⟨oi, hoi, hic, _⟩ := id hit
  have hSi : S ≠ it := fun e => by
    rw [e, hoi] at hS
    cases hS
    simp at hic
  have hSf : S ∉ [it, t] := by simp only [List.mem_cons, List.not_mem_nil, or_false, not_or]; exact ⟨hSi, hSt⟩
  have W := (walks_tupRev (prog := prog) (w := w) (A := A.in1) hh it t hne items hsl).toS
  have hT := hit.typeIs
  have key : ∀ (h : Heap) (c₁ tk : Nat), IsRt h it t ((items.size : Int) - 1) → IsTup h t items → (∀ b o, b ≠ S → s.heap.get? b = some o → h.get? b = some o) →
      h.get? S = some { cls := .type "list", data := .seq #[] c₁ } → codeAny (model prog w) A (.builtin "list.extend.loop" ⟨[.ref S, .ref it, res], []⟩) R { s with heap := h, toks := tk } := by
    intro h c₁ tk hit' ht' hk hS₁
    have e0 : ((items.size : Nat) : Int) - 1 - ((0 : Nat) : Int) = (items.size : Int) - 1 := by omega
    refine codeAny_extend_loopS W hsl S hSf res items.size 0 _ #[] c₁ rfl (Nat.zero_le _) ⟨Nat.zero_le _, by rw [e0]; exact hit', ht'⟩ hS₁ (ItemsOf.nil _) fun s' acc' c' hm hS' hacc => ?_
    rw [Moved.eq_with hm]
    refine hR s'.heap s'.toks acc' c' (fun b o hb hb2 e => hm.heap b o (fun hmem => ?_) (hk b o hb e)) hS' hacc
    rcases List.mem_cons.mp hmem with e' | hmem
    · exact hb e'
    · exact hb2 (List.mem_singleton.mp hmem)
  unfold Builtin.List.listExtendWith
  refine wpAny_bind (wpAny_typeOf hT ?_)
  have h1 : Builtin.List.listSameRef (.ref S) (.ref it) = false := by simp [Builtin.List.listSameRef, hSi]
  have h2 : (Value.type "reversed" == Value.type "list") = false := by decide
  have h3 : (Value.type "reversed" == Value.type "tuple") = false := by decide
  simp only [h1, h2, h3, Bool.or_false, Bool.false_eq_true, if_false]
  refine wpAny_bind (iter_rt hit ?_)
  refine wpAny_bind (wpAny_holding (list_hint hit ht hn fun tk' => ?_))
  refine wpAny_ite_split (fun _ => ?_) (fun _ => wpAny_pure ⟨plainId_quiet F.plain_extend_loop _, key _ c₀ _ hit ht (fun b o _ e => e) hS⟩)
  refine wpAny_bind (wpAny_rule ?_)
  refine wpAny_bind ?_
  show wpAny _ _ (updateSeq S (·.push .none) >>= fun _ => updateSeq S (·.pop)) _ _ _
  refine wpAny_bind (wpAny_updateSeq hS rfl ?_)
  have hS₂ := Heap.get?_update_self (Obj.mapSeq (·.push Value.none)) hS rfl
  refine wpAny_updateSeq (hz := by seq_fits) hS₂ rfl ?_
  have hS₃ := Heap.get?_update_self (Obj.mapSeq (·.pop)) hS₂ rfl
  have oth : ∀ b o, b ≠ S → s.heap.get? b = some o → ((s.heap.update S (Obj.mapSeq (·.push Value.none))).update S (Obj.mapSeq (·.pop))).get? b = some o := fun b o hb e => (Heap.get?_update_other _ _ (Ne.symm hb)).trans ((Heap.get?_update_other _ _ (Ne.symm hb)).trans e)
  refine wpAny_pure ⟨plainId_quiet F.plain_extend_loop _, key _ _ _ (hit.at fun o e => oth it o (Ne.symm hSi) e) ⟨ot, oth t ot (Ne.symm hSt) hot, htc, ht2⟩ oth hS₃⟩
theorem init_rev {R : Result → Shared → Prop} {it t : Addr} {items : Array Value} (hh : A.handled = none) (hit : IsRt s.heap it t ((items.size : Int) - 1)) (ht : IsTup s.heap t items) (hne : t ≠ it) (hn : items.size ≤ 1000) (S : Addr)
    (hS : s.heap.get? S = some { cls := .type "list", data := .seq #[] }) (hSt : S ≠ t) (hSi : S ≠ it)
    (hR : ∀ h' tk acc' c', (∀ b o, b ≠ S → b ≠ it → s.heap.get? b = some o → h'.get? b = some o) → h'.get? S = some { cls := .type "list", dict := none, data := .seq acc' c', slots := #[] } →
      ItemsOf (fun i v => items[items.size - 1 - i]? = some v) acc' items.size → R (.ok (.ret .none)) { s with heap := h', toks := tk }) :
    wpAny (model prog w) A.in1 (Builtin.«list.__init__» ⟨[.ref S, .ref it], []⟩)
      (fun fin s' => match fin with | .done f => R (.ok f) s' | .again c' => c'.quiet = true ∧ codeAny (model prog w) A c' R s') (fun e s' => R (.error e) s') s := by
  show wpAny _ _ (do let old ← Builtin.List.listItems (.ref S); Builtin.List.listUpdate (.ref S) (fun _ => #[]); letGo old.toList.reverse; Builtin.List.listExtendWith (.ref S) (.ref it) .none) _ _ s
  refine wpAny_bind ?_
  unfold Builtin.List.listItems
  refine wpAny_bind (wpAny_seqItems hS rfl (wpAny_pure ?_))
  show wpAny _ _ (updateSeq S (fun _ => #[]) >>= fun _ => letGo (#[] : Array Value).toList.reverse >>= fun _ => Builtin.List.listExtendWith (.ref S) (.ref it) .none) _ _ s
  refine wpAny_bind (wpAny_updateSeq hS rfl ?_)
  have hS₂ := Heap.get?_update_self (Obj.mapSeq (fun _ => (#[] : Array Value))) hS rfl
  have oth : ∀ b o, b ≠ S → s.heap.get? b = some o → (s.heap.update S (Obj.mapSeq (fun _ => (#[] : Array Value)))).get? b = some o :=
    fun b o hb e => (Heap.get?_update_other _ _ (Ne.symm hb)).trans e
  refine wpAny_bind (wpAny_letGo ?_)
  obtain ⟨ot, hot, htr⟩ := ht
  refine extend_rev hh (hit.at fun o e => oth it o (Ne.symm hSi) e) ⟨ot, oth t ot (Ne.symm hSt) hot, htr⟩ hne hn S .none _ hS₂ fun h' tk acc' c' hk hS' hacc => ?_
  exact hR h' tk acc' c' (fun b o hb hb2 e => hk b o hb hb2 (oth b o hb e)) hS' hacc
theorem call_list_rev {it t : Addr} {items : Array Value} {Q : Value → Shared → Prop} (hh : A.handled = none) (hit : IsRt s.heap it t ((items.size : Int) - 1)) (ht : IsTup s.heap t items) (hne : t ≠ it) (hn : items.size ≤ 1000)
    (hQ : ∀ h' tk acc' c', (∀ b o, b ≠ it → s.heap.get? b = some o → h'.get? b = some o) →
      h'.get? s.heap.objs.size = some { cls := .type "list", dict := none, data := .seq acc' c', slots := #[] } → ItemsOf (fun i v => items[items.size - 1 - i]? = some v) acc' items.size → Q (.ref s.heap.objs.size) { s with heap := h', toks := tk }) :
    wpAny (model prog w) A (call (.type "list") [.ref it]) Q E s := by
  obtain ⟨ot, hot, htr⟩ := ht
  obtain ⟨oi, hoi, hir⟩ := id hit
  refine callType_codes (Q₁ := fun obj s₁ => obj = .ref s.heap.objs.size ∧ s₁ = { s with heap := s.heap.push { cls := .type "list", data := .seq #[] } }) F.called_list (F.typeCall_list_1 _) F.entry_list_init
    (code_list_new _ ⟨rfl, rfl⟩) fun obj s₁ h₁ => ?_
  obtain ⟨rfl, rfl⟩ := h₁
  have hS : (s.heap.push { cls := .type "list", data := .seq #[] }).get? s.heap.objs.size = some { cls := .type "list", data := .seq #[] } := Heap.get?_push_size _ rfl
  refine ⟨⟨_, hS, rfl⟩, F.args_list_init_2 _ _, init_rev (A := A.in1) hh (hit.at fun o e => Heap.get?_push_of_some _ e) ⟨ot, Heap.get?_push_of_some _ hot, htr⟩ hne hn _ hS (Nat.ne_of_gt (Heap.lt_size hot)) (Nat.ne_of_gt (Heap.lt_size hoi)) fun h' tk acc' c' hk hS' hacc => ?_⟩
  exact ⟨rfl, hQ h' tk acc' c' (fun b o hb e => hk b o (Nat.ne_of_lt (Heap.lt_size e)) hb (Heap.get?_push_of_some _ e)) hS' hacc⟩
end
/-- list(reversed(x)), x a tuple: a new list -/
def tListRev (K : PySem.W.Frag) (te : TE) : TE := fun σ H Q => te σ H fun v H1 => ∃ (a : Addr) (xs : List V), v = .ref a ∧ SqT K H1 a xs ∧ xs.length ≤ 1000 ∧ ∀ q, H1 q = none → Q (.ref q) (upd H1 q (.lst xs.reverse))
section
variable {X : Cx}
theorem pe_listRev {e : Expr} {te : TE} {p p2 pos pos2 : Pos} (hc : X.calm = true) (hg : Gl X "list") (hm : X.mg "list" = none) (hg2 : Gl X "reversed") (hm2 : X.mg "reversed" = none) (he : PE X e te)
    (hs : starEach [e] X.env = (false, eval e X.env) :: starEach [] X.env := by rfl)
    (hs2 : starEach [.Call (.Name "reversed" p2) [e] [] pos2] X.env = (false, eval (.Call (.Name "reversed" p2) [e] [] pos2) X.env) :: starEach [] X.env := by rfl) :
    PE X (.Call (.Name "list" p) [.Call (.Name "reversed" p2) [e] [] pos2] [] pos) (tListRev X.K te) := by
  refine ⟨fun pins s σ H Q I h => ?_⟩
  refine Call_ (ld_blt I hg hm boot_list (PyProof.Rows.callWith_type1 (args_cons (Call_ (ld_blt I hg2 hm2 PyProof.Rows.boot_reversed (PyProof.Rows.callWith_type1 (args_cons (thn (he.run pins s σ H _ I h) fun u s1 ⟨v, H1, I1, r1, q1⟩ => args_nil ?_) hs) hs rfl))) hs2) hs2 rfl))
  obtain ⟨a, xs, ev, hq, hx, q⟩ := q1
  subst ev
  obtain rfl : u = Value.ref a := r1
  obtain ⟨its, rv, p', hz⟩ := I1.tuple hq
  have hl := rv.length
  have hn : its.toArray.size ≤ 1000 := by rw [List.size_toArray]; omega
  refine call_reversed_tup p' (fun A E Q k => PyProof.Rows.len_tuple p' (by omega) k) (args_nil ?_)
  have k0 : ∀ b o, s1.heap.get? b = some o → (s1.heap.push (rtObj a ((its.toArray.size : Int) - 1))).get? b = some o := fun b o e => Heap.get?_push_of_some _ e
  have I2 : Inv X pins σ H1 { s1 with heap := s1.heap.push (rtObj a ((its.toArray.size : Int) - 1)), toks := s1.toks + 1 + 1 } := I1.kept (t' := s1.toks + 1 + 1) k0
  obtain ⟨f0, f1, f2, f3, f4, f5⟩ := I1.fpOk (H' := H1) (b := s1.heap.objs.size) (Nat.le_refl _) (I1.hok.fresh (Nat.le_refl _))
  obtain ⟨ot, hot, htr⟩ := id p'
  have hne : a ≠ s1.heap.objs.size := Nat.ne_of_lt (Heap.lt_size hot)
  refine call_list_rev (s := { s1 with heap := s1.heap.push (rtObj a ((its.toArray.size : Int) - 1)), toks := s1.toks + 1 + 1 }) (I1.ok.hd hc) ⟨_, Heap.get?_push_size _ rfl, rfl, rfl⟩ ⟨ot, Heap.get?_push_of_some _ hot, htr⟩ hne hn fun h' tk acc c' hk hS hi => ?_
  have hsz : (s1.heap.push (rtObj a ((its.toArray.size : Int) - 1))).objs.size = s1.heap.objs.size + 1 := Heap.size_push ..
  exact ⟨.ref _, upd H1 _ (.lst xs.reverse), I1.laid (t' := tk) (fun b o e => hk b o (Nat.ne_of_lt (Heap.lt_size e)) (Heap.get?_push_of_some _ e)) (by rw [hsz]; omega) (show ObjOk X.prog X.w _ h' _ (.lst xs.reverse) from ⟨by rw [List.length_reverse]; exact hz, acc.toList, c', vals_rev rv hi, by rw [Array.toArray_toList]; exact hS⟩), rfl, q _ (I1.hok.fresh (by rw [hsz]; omega))⟩
end
end RevX
namespace My
open PySem PySem.Spec PyProof.Rows L2 GT RevX
theorem TpA.rev {K : Fg} {H : Hp} : ∀ {vs : List V} {ds : List Dt}, TpA K H vs ds → TpA K H vs.reverse ds.reverse
  | _, _, .nil => .nil
  | _, _, .cons r t => by
    rw [List.reverse_cons, List.reverse_cons]
    exact (TpA.rev t).append (.cons r .nil)
theorem ev_listRev {K : Fg} {B : Hp} {O : Own} {L : Sl} {ta : TE} {ds : List Dt} (h : Ev K B O L ta (.dat (.tup ds))) (hl : ds.length ≤ 1000) : Ev K B O L (tListRev K ta) (.new (.lst ds.reverse)) := fun σ H s Q q =>
  h σ H s _ fun v H1 e1 r1 => by
    obtain ⟨t, xs, rfl, ht, hd⟩ := tup_inv r1
    exact ⟨t, xs, rfl, ht, by rw [hd.length]; exact hl, fun p hp => q _ _ (e1.trans (Same.new hp)) ⟨p, rfl, e1.free hp, _, upd_same, (TpA.rev hd).same (Same.new hp)⟩⟩
end My

/-! ### texts -/
namespace My
open PySem PySem.Spec PyProof.Rows L2 GT
abbrev dS (a : List Nat) : Dt := .str (SX.S a)
theorem cutS_take {a : List Nat} {k : Int} (h : 0 ≤ k) : cutS (SX.S a) none (some k) = SX.S (a.take k.toNat) := by
  obtain ⟨n, rfl⟩ := Int.eq_ofNat_of_zero_le h
  unfold cutS
  rw [SX.S_len, HT.sIx_none]
  show (⟨((a.drop 0).take (HT.sIx a.length a.length (some (n : Int)) - 0)).toArray⟩ : Str) = _
  rw [HT.sIx_nat, List.drop_zero, Nat.sub_zero, Int.toNat_natCast]
  rcases Nat.le_total n a.length with h | h
  · rw [Nat.min_eq_left h]
  · rw [Nat.min_eq_right h, List.take_of_length_le (Nat.le_refl _), List.take_of_length_le h]
theorem cutS_drop {a : List Nat} {k : Int} (h : 0 ≤ k) : cutS (SX.S a) (some k) none = SX.S (a.drop k.toNat) := by
  obtain ⟨n, rfl⟩ := Int.eq_ofNat_of_zero_le h
  unfold cutS
  rw [SX.S_len, HT.sIx_none]
  show (⟨((a.drop (HT.sIx a.length 0 (some (n : Int)))).take _).toArray⟩ : Str) = _
  rw [HT.sIx_nat, Int.toNat_natCast]
  rw [List.take_of_length_le (by rw [List.length_drop]; omega)]
  rcases Nat.le_total n a.length with h | h
  · rw [Nat.min_eq_left h]
  · rw [Nat.min_eq_right h, List.drop_of_length_le (Nat.le_refl _), List.drop_of_length_le h]
section
variable {K : Fg} {B : Hp} {O : Own} {L : Sl} {te ta tb tx : TE} {t : TT}
theorem ev_catS {a b : List Nat} (ha : Ev K B O L ta (.dat (dS a))) (hb : Ev K B O L tb (.dat (dS b))) (hz : a.length + b.length ≤ 100000) : Ev K B O L (tOp (fun x y H Q => ∃ i j, x = V.str i ∧ y = V.str j ∧ i.length + j.length ≤ sizeLine ∧ Q (.str (i ++ j)) H) ta tb) (.dat (dS (a ++ b))) :=
  ev_op ha hb fun σ H s x y hx hy Q q => by
    cases hx
    cases hy
    refine ⟨_, _, rfl, rfl, by rw [SX.S_len, SX.S_len, sizeLine_eq]; omega, q _ H (.refl H) ?_⟩
    rw [SX.S_cat]
    exact .str _
theorem ev_strN {n : Nat} (h : Ev K B O L ta (.dat (.int n))) (hn : n < 10) : Ev K B O L (tCB (fun xs H Q => ∃ i : Int, xs = [V.int i] ∧ i.natAbs.log2 < 1920 ∧ Q (.str (toString i)) H) (tCons ta tNil)) (.dat (dS [48 + n])) := by
  have h1 := ev_strI h (by
    have : n.log2 ≤ n := Nat.log2_le_self n
    show n.log2 < 1920
    omega)
  refine Ev.isD h1 ?_
  show Dt.str (Str.ofString (toString ((n : Nat) : Int))) = _
  rw [SX.num_S, TL.numL_lt hn]
theorem eqS (a b : List Nat) : decide (SX.S a = SX.S b) = decide (a = b) := by
  by_cases h : a = b
  · rw [h, decide_eq_true rfl, decide_eq_true rfl]
  · rw [decide_eq_false h, decide_eq_false fun e => h (SX.S_inj e)]
theorem ev_lenS2 {a : List Nat} (h : Ev K B O L ta (.dat (dS a))) (hz : a.length ≤ 100000) : Ev K B O L (tCB (fun xs H Q => ∃ z : Str, xs = [.str z] ∧ z.length ≤ sizeLine ∧ Q (.int z.length) H) (tCons ta tNil)) (.dat (.int a.length)) :=
  Ev.isD (ev_lenS h (by rw [SX.S_len]; exact hz)) (by rw [SX.S_len])
theorem ev_slS {a : List Nat} {tl th : TO} {lo hi : Option Int} (ha : Ev K B O L ta (.dat (dS a))) (h1 : EvO K B O L tl lo) (h2 : EvO K B O L th hi) (hz : a.length ≤ 100000) : Ev K B O L (tSl rSlS ta tl th) (.dat (.str (cutS (SX.S a) lo hi))) := fun σ H s Q q =>
  ha σ H s _ fun x H1 e1 r1 => h1 σ H1 (s.same e1) _ fun H2 e2 => h2 σ H2 ((s.same e1).same e2) _ fun H3 e3 => by
    cases r1
    exact ⟨_, rfl, by rw [SX.S_len, sizeLine_eq]; omega, q _ H3 ((e1.trans e2).trans e3) (.str _)⟩
theorem ev_fromS {a : List Nat} {k : Int} (ha : Ev K B O L ta (.dat (dS a))) (hk : 0 ≤ k) (hz : a.length ≤ 100000) (hb : Ev K B O L tb (.dat (.int k))) : Ev K B O L (tSl rSlS ta (tPart tb) tNoPart) (.dat (dS (a.drop k.toNat))) :=
  Ev.isD (ev_slS ha (eo_some hb) eo_none hz) (by rw [cutS_drop hk])
theorem ev_toS {a : List Nat} {k : Int} (ha : Ev K B O L ta (.dat (dS a))) (hk : 0 ≤ k) (hz : a.length ≤ 100000) (hb : Ev K B O L tb (.dat (.int k))) : Ev K B O L (tSl rSlS ta tNoPart (tPart tb)) (.dat (dS (a.take k.toNat))) :=
  Ev.isD (ev_slS ha eo_none (eo_some hb) hz) (by rw [cutS_take hk])
theorem ev_splitS {a : List Nat} {c : Nat} (ha : Ev K B O L ta (.dat (dS a))) (hb : Ev K B O L tb (.dat (dS [c]))) (hc : c < 256) (hz : a.length ≤ 100000) : Ev K B O L (tM1 (fun x xs H Q => ∃ a b : Str, x = V.str a ∧ xs = [V.str b] ∧ (b.length == 0) = false ∧ a.length + 2 ≤ sizeLine ∧ rNewStrs (Txt.split a b) H Q) ta tb) (.new (.lst ((TL.spl [c] 0 [] a).map dS))) := fun σ H s Q q =>
  ha σ H s _ fun x H1 e1 r1 => by
    cases r1
    refine ⟨⟨_, rfl⟩, hb σ H1 (s.same e1) _ fun y H2 e2 r2 => ?_⟩
    cases r2
    refine ⟨_, _, rfl, rfl, rfl, by rw [SX.S_len, sizeLine_eq]; omega, fun p hp => ?_⟩
    rw [SX.split_S (by simp) (by rw [List.all_cons, List.all_nil, Bool.and_true]; exact decide_eq_true hc)]
    refine q _ _ ((e1.trans e2).trans (Same.new hp)) ⟨p, rfl, (e1.trans e2).free hp, _, upd_same, ?_⟩
    have key : ∀ ys : List (List Nat), ∀ H : Hp, TpA K H ((ys.map SX.S).map V.str) (ys.map dS) := by
      intro ys H
      induction ys with
      | nil => exact .nil
      | cons y ys ih => exact .cons (.str _) ih
    exact key _ _
theorem ev_inS1 {a : List Nat} {c : Nat} (ha : Ev K B O L ta (.dat (dS [c]))) (hb : Ev K B O L tb (.dat (dS a))) : Ev K B O L (tOp (fun x y H Q => ∃ i j : Str, x = .str i ∧ y = .str j ∧ Q (.bl (!(Builtin.Str.occurrences j i 0 j.length 1).isEmpty)) H) ta tb) (.dat (.bl (decide (c ∈ a)))) :=
  ev_op ha hb fun σ H s x y hx hy Q q => by
    cases hx
    cases hy
    refine ⟨_, _, rfl, rfl, ?_⟩
    rw [SX.in_one]
    exact q _ H (.refl H) (.bl _)
theorem ev_notInS1 {a : List Nat} {c : Nat} (ha : Ev K B O L ta (.dat (dS [c]))) (hb : Ev K B O L tb (.dat (dS a))) : Ev K B O L (tOp (fun x y H Q => ∃ i j : Str, x = .str i ∧ y = .str j ∧ Q (.bl (!(!(Builtin.Str.occurrences j i 0 j.length 1).isEmpty))) H) ta tb) (.dat (.bl (!decide (c ∈ a)))) :=
  ev_op ha hb fun σ H s x y hx hy Q q => by
    cases hx
    cases hy
    refine ⟨_, _, rfl, rfl, ?_⟩
    rw [SX.in_one]
    exact q _ H (.refl H) (.bl _)
theorem ev_indexS {a b : List Nat} {i : Nat} {r : List Nat} (ha : Ev K B O L ta (.dat (dS a))) (hb : Ev K B O L tb (.dat (dS b))) (h : Builtin.Str.occurrences (SX.S a) (SX.S b) 0 (SX.S a).length 1 = i :: r) : Ev K B O L (tM1 (fun x xs H Q => ∃ (a b : Str) (i : Nat) (rest : List Nat), x = V.str a ∧ xs = [V.str b] ∧ Builtin.Str.occurrences a b 0 a.length 1 = i :: rest ∧ Q (.int (i : Nat)) H) ta tb) (.dat (.int i)) := fun σ H s Q q =>
  ha σ H s _ fun x H1 e1 r1 => by
    cases r1
    refine ⟨⟨_, rfl⟩, hb σ H1 (s.same e1) _ fun y H2 e2 r2 => ?_⟩
    cases r2
    exact ⟨_, _, i, r, rfl, rfl, h, q _ H2 (e1.trans e2) (.int _)⟩
theorem ev_sc {z : Str} {a : List Nat} (h : z = SX.S a) : Ev K B O L (tC (.str z)) (.dat (dS a)) := Ev.isD ev_str (congrArg Dt.str h)
/-- list(range(n)) -/
theorem ev_listRg {n : Nat} (h : Ev K B O L ta (.dat (.int n))) (hn : n ≤ 1000) : Ev K B O L (tLstRg (tRg1 ta)) (.new (.lst (((List.range n).map Int.ofNat).map .int))) := fun σ H s Q q =>
  h σ H s _ fun x H1 e1 r1 => by
    cases r1
    refine ⟨_, rfl, RgOk.of_le (by omega) (by omega) (by omega) (by omega), fun p hp => q _ _ (e1.trans (Same.new hp)) ⟨p, rfl, e1.free hp, _, upd_same, ?_⟩⟩
    have e : rgV 0 (n : Int) = ((List.range n).map Int.ofNat).map V.int := by
      unfold rgV
      rw [List.map_map, Int.sub_zero, Int.toNat_natCast]
      refine List.map_congr_left fun i _ => ?_
      show V.int (0 + (i : Int)) = V.int (Int.ofNat i)
      rw [Int.zero_add]
      rfl
    rw [e]
    exact TpA.of_ints _
/-- is not, of truth values -/
theorem ev_isNotB {i j : Bool} (ha : Ev K B O L ta (.dat (.bl i))) (hb : Ev K B O L tb (.dat (.bl j))) : Ev K B O L (tOp rNotB ta tb) (.dat (.bl (!decide (i = j)))) :=
  ev_op ha hb fun σ H s x y hx hy Q q => by
    cases hx
    cases hy
    exact ⟨i, j, rfl, rfl, q _ H (.refl H) (.bl _)⟩
end
theorem eraseDups_len {α : Type} [BEq α] [LawfulBEq α] : ∀ (n : Nat) (xs : List α), xs.length ≤ n → xs.eraseDups.length ≤ xs.length
  | 0, xs, h => by
    have : xs = [] := List.eq_nil_of_length_eq_zero (by omega)
    subst this
    exact Nat.le_refl _
  | n + 1, [], _ => Nat.le_refl _
  | n + 1, x :: xs, h => by
    rw [List.length_cons] at h
    have h1 := List.length_filter_le (fun b => !b == x) xs
    rw [List.eraseDups_cons, List.length_cons, List.length_cons]
    have h2 := eraseDups_len n (xs.filter fun b => !b == x) (by omega)
    omega
theorem srtU_len (ps : List (Int × Int)) : (srtU ps).length ≤ ps.length := by
  unfold srtU
  rw [srt_len]
  exact eraseDups_len _ ps (Nat.le_refl _)
/-! crossings as texts: signs by their codes -/
def pairT (p : Int × Int) : List Nat := [48 + p.1.toNat, 45, 48 + p.2.toNat]
def tailT (ps : List (Int × Int)) : List Nat := ps.flatMap fun p => 32 :: pairT p
def txtT (n : Nat) (ps : List (Int × Int)) : List Nat := [48 + n, 58] ++ tailT ps
theorem tailT_snoc (ps : List (Int × Int)) (p : Int × Int) : tailT (ps ++ [p]) = tailT ps ++ (32 :: pairT p) := by
  unfold tailT
  rw [List.flatMap_append]
  simp
theorem tailT_len : ∀ ps : List (Int × Int), (tailT ps).length = 4 * ps.length
  | [] => rfl
  | p :: ps => by
    have := tailT_len ps
    unfold tailT at this ⊢
    rw [List.flatMap_cons, List.length_append, this]
    show 4 + 4 * ps.length = 4 * (ps.length + 1)
    omega
theorem txtT_join (x : List Nat) : ∀ ps : List (Int × Int), TL.joinL [32] (x :: ps.map pairT) = x ++ tailT ps
  | [] => by simp [TL.joinL, tailT]
  | p :: ps => by
    rw [List.map_cons, TL.joinL, txtT_join (pairT p) ps]
    simp [tailT]
/-- streams as figures -/
def okF (p : Int × Int) : Prop := 0 ≤ p.1 ∧ p.1 < 10 ∧ 0 ≤ p.2 ∧ p.2 < 10
theorem txtT_split {n : Nat} (hn : n < 10) {ps : List (Int × Int)} (h : ∀ p, p ∈ ps → okF p) : TL.spl [32] 0 [] (txtT n ps) = [48 + n, 58] :: ps.map pairT := by
  have e : txtT n ps = TL.joinL [32] ([48 + n, 58] :: ps.map pairT) := (txtT_join [48 + n, 58] ps).symm
  rw [e]
  refine SX.spl_join (by simp) fun x hx => ?_
  rcases List.mem_cons.mp hx with e | hx
  · rw [e]
    simp
    omega
  · obtain ⟨p, hp, rfl⟩ := List.mem_map.mp hx
    have := h p hp
    unfold pairT
    simp
    omega
theorem pairT_split {p : Int × Int} (h : okF p) : TL.spl [45] 0 [] (pairT p) = [[48 + p.1.toNat], [48 + p.2.toNat]] := by
  have e : pairT p = TL.joinL [45] [[48 + p.1.toNat], [48 + p.2.toNat]] := rfl
  rw [e]
  refine SX.spl_join (by simp) fun x hx => ?_
  obtain ⟨h1, h2, h3, h4⟩ := h
  rcases List.mem_cons.mp hx with e | hx
  · rw [e]
    simp
    omega
  · rw [List.mem_singleton.mp hx]
    simp
    omega
theorem fig_at : ∀ d : Nat, d < 10 → Builtin.Str.occurrences (SX.S [48, 49, 50, 51, 52, 53, 54, 55, 56, 57]) (SX.S [48 + d]) 0 (SX.S [48, 49, 50, 51, 52, 53, 54, 55, 56, 57]).length 1 = [d] := by decide +kernel
end My

/-! ### an exception that leaves a list comprehension -/
namespace CompX
open PySem PySem.Spec PyProof.Rows L2
section
variable {M : Model} {A : Around} {E : Value → Shared → Prop} {s : Shared} {env : Env}
/-- behind the block of frame ce: its list, or its exception's way out -/
def Behind (M : Model) (A : Around) (E : Value → Shared → Prop) (use : Option (Value → Sem Unit)) (Q : Value → Shared → Prop) (acc : Value) (ce : Env) : Result → Shared → Prop
  | .ok _, t => compPost M A E use Q acc ce.locals (.ok .next) t
  | .error x, t => ∃ m, t.heap.Ns ce.locals m ∧
      ∀ g, Heap.SameBut ce.locals t.heap g → wpAny M A (passOn "comprehension.variables-let-go" x ce : Sem Value) (fun _ _ => False) E { t with heap := g }
/-- a comprehension as an expression, exceptions with it -/
theorem comp_rule {e : Expr} {sc : Scope} {pos : Pos} {mk it₀ : Sem Value} {g : Comprehension} {gs : List Comprehension} {cl : List (Str × Addr)} {use : Option (Value → Sem Unit)} {Q : Value → Shared → Prop}
    (c1 : clausesOf e = g :: gs) (c2 : ∀ x, foldedSetIterable g.iter env x = pure x) (c3 : closureFor sc env = pure cl) (c4 : sc.kind = .function) (c5 : ∀ x ∈ sc.names, x.2 = .local → sc.names.lookup x.1 = some .local)
    (h : wpAny M A it₀ (fun x t1 => wpAny M A (pyIter x) (fun it t2 => wpAny M A mk (fun acc t3 => wpAny M A (newFunctionEnv sc env.globals cl [] env.qual none .none (some env)) (fun ce t4 =>
      codeAny M A (.compStart e 0 it acc { ce with scope := relabel sc env }) (Behind M A E use Q acc { ce with scope := relabel sc env }) t4) E t3) E t2) E t1) E s) :
    wpAny M A (comprehension e sc env pos mk false it₀ use) Q E s := by
  have up : ∀ {α : Type} {x : Sem α} {P P' : α → Shared → Prop} {t : Shared}, wpAny M A x P E t → (∀ a t', P a t' → P' a t') → wpAny M A x P' E t := fun w k => wpAny_mono w k fun _ _ z => z
  unfold comprehension
  rw [c3, c1]
  refine wpAny_bind (up h fun x t1 k1 => wpAny_bind (wpAny_standAt (wpAny_bind (wpAny_of_eq (c2 x) (wpAny_bind (wpAny_holding (up k1 fun it t2 k2 => ?_)))))))
  refine wpAny_standIf (wpAny_bind (up k2 fun acc t3 k3 => wpAny_bind (wpAny_pure (wpAny_bind (up k3 fun ce t4 k4 => ?_)))))
  dsimp only
  have own : ∀ p ∈ (sc.names.filter fun x => (x.2 == .local || x.2 == .cell) && x.1 != (".0" : Str)).reverse, p.2 = .local → Env.kindOf { ce with scope := relabel sc env } p.1 = some .local :=
    fun p hp hl => lookup_relabel_local (c5 p (List.mem_filter.mp (List.mem_reverse.mp hp)).1 hl)
  have own2 : ∀ p ∈ (sc.names.filter fun x => (x.2 == .local || x.2 == .cell) && x.1 != (".0" : Str)).reverse.drop 1 ++ (sc.names.filter fun x => (x.2 == .local || x.2 == .cell) && x.1 != (".0" : Str)).reverse.take 1,
      p.2 = .local → Env.kindOf { ce with scope := relabel sc env } p.1 = some .local := fun p hp hl =>
    (List.mem_append.mp hp).elim (fun z => own p (List.mem_of_mem_drop z) hl) fun z => own p (List.mem_of_mem_take z) hl
  refine wpAny_holding (wpAny_bind (wpAny_attempt (wpAny_holding (wpAny_run (codeAny_mono k4 fun r t hr => ?_)))))
  match r, hr with
  | .ok f, hr =>
    match use, hr with
    | none, ⟨m, n1, n2⟩ =>
      refine wpAny_bind (wpAny_holding ?_)
      exact wpAny_comp_letGo (cenv := { ce with scope := relabel sc env }) c4 _ t m own n1 fun h' _ _ sb => wpAny_pure (n2 h' sb)
    | some u, hr =>
      refine wpAny_bind (wpAny_rule (wpAny_bind (wpAny_holding (up hr fun _ t5 ⟨m, n1, n2⟩ => wpAny_bind ?_))))
      exact wpAny_comp_letGo (cenv := { ce with scope := relabel sc env }) c4 _ t5 m own2 n1 fun h' _ _ sb => wpAny_pure (n2 h' sb)
  | .error x, ⟨m, n1, n2⟩ =>
    refine wpAny_bind (wpAny_holding ?_)
    exact wpAny_comp_letGo (cenv := { ce with scope := relabel sc env }) c4 _ t m own n1 fun h' _ _ sb => wpAny_mono (n2 h' sb) (fun _ _ z => z.elim) fun _ _ z => z
end
theorem frames_but {B B' h h' : Heap} : ∀ {l : List Env}, h.FunFrames B l → (∀ L ∈ frs l, B'.get? L = none ∧ h'.get? L = h.get? L) → h'.FunFrames B' l
  | [], _, _ => trivial
  | e :: l, ⟨k, ⟨L, o, f, _, q, d⟩, r⟩, n =>
    have z := n L (List.mem_filterMap.mpr ⟨e, List.mem_cons_self, f⟩)
    ⟨k, ⟨L, o, f, z.1, z.2.trans q, d⟩, frames_but r fun b hb => let ⟨e', he, q'⟩ := List.mem_filterMap.mp hb; n b (List.mem_filterMap.mpr ⟨e', List.mem_cons_of_mem _ he, q'⟩)⟩
/-- the block's context, with a word of what may leave it -/
abbrev Blk (X : Cx) (s : Shared) (H : Hp) (sc : Scope) (ce : Env) (fp : List Addr) (xe : Value → Shared → Prop) : Cx := (X.blk s H sc ce fp).wish xe
section
variable {X : Cx} {pins : List (Addr × Obj)} {σ : L2.St} {H : Hp} {s : Shared} {EW : XK}
/-- what a call in the block lets out leaves the comprehension -/
theorem out_of {scope : Scope} {ce : Env} {fp : List Addr} {xe : Value → Shared → Prop} {pb : List (Addr × Obj)} {σb : L2.St} {Hb : Hp} {sb t : Shared} {e : Value} {use : Option (Value → Sem Unit)} {Qf : Value → Shared → Prop} {acc : Value}
    (hst : X.stack = X.env :: X.outer) (hfr : X.env.frame = some X.env.locals) (tk : L2.Takes X fun cls d _ H => EW cls d H) (I : Inv X pins σ H s) (hfp : ∀ b ∈ fp, FpOk X pins H b ∧ b < s.heap.objs.size)
    (hC : ce.locals = s.heap.objs.size) (hF : ce.frame = X.env.frame) (Ib : Inv (Blk X s H scope ce fp xe) pb σb Hb sb) (c : L2.CX X.prog X.w X.stack Hb sb EW e t) :
    notedBy (model X.prog X.w) X.A ce (fun e t => Behind (model X.prog X.w) X.A X.xe use Qf acc ce (.error e) t) e t := by
  obtain ⟨a, B, H', cls, d, rfl, fl, hok, ub, na, os, ag, w⟩ := c
  have base : Un (frs X.stack) fp H Hb s.heap sb.heap := Ib.base
  have old : ∀ b o, s.heap.get? b = some o → b ≠ ce.locals := fun b o q => by
    rw [hC]
    exact Nat.ne_of_lt (Heap.lt_size q)
  have nfs : ce.locals ∉ frs X.stack := fun z => by
    obtain ⟨_, o, q, _⟩ := I.stack.mem z
    exact old _ o q rfl
  -- the block's own names
  obtain ⟨m, hn, _⟩ := id Ib.loc
  have hn : sb.heap.Ns ce.locals m := hn
  have fC : Hb ce.locals = none := Ib.free
  obtain ⟨oC, es, ep, qC, dC⟩ := id hn
  have BC : B.get? ce.locals = some oC := ub.keep _ _ qC fC nfs
  have HC : H' ce.locals = none := ub.free _ _ qC fC
  -- the state without the exception and without the block
  obtain ⟨G, g1, g2⟩ := restrict t.heap fun b => ((B.get? b).isSome || decide (b ∈ frs X.stack)) && !decide (b = ce.locals)
  have gB : ∀ b o, b ≠ ce.locals → B.get? b = some o → G.get? b = some o := fun b o n q => by
    rw [g1 b (by simp [q, n])]
    exact fl.1 b o q
  have gF : ∀ b, b ∈ frs X.stack → G.get? b = t.heap.get? b := fun b hb => g1 b (by
    have n : b ≠ ce.locals := fun z => nfs (z ▸ hb)
    simp [hb, n])
  have gO : ∀ b o, G.get? b = some o → t.heap.get? b = some o ∧ b ≠ ce.locals ∧ ((B.get? b).isSome = true ∨ b ∈ frs X.stack) := fun b o q => by
    cases r : ((B.get? b).isSome || decide (b ∈ frs X.stack)) && !decide (b = ce.locals) with
    | false => rw [g2 b r] at q; cases q
    | true =>
      rw [g1 b r] at q
      simp only [Bool.and_eq_true, Bool.or_eq_true, decide_eq_true_eq, Bool.not_eq_true', decide_eq_false_iff_not] at r
      exact ⟨q, r.2, r.1⟩
  have un : Un (frs X.stack) fp H H' s.heap G := by
    refine ⟨fun b o q n hb hx => ?_, fun b o q n hb hx => ?_, fun b o q n hx => ?_, fun b o q hx => ?_, fun b xs q => ub.tups b xs (base.tups b xs q), fun b o u q => ub.frzs b o u (base.frzs b o u q), fun b ps q => ?_⟩
    · exact gB b o (old b o q) (ub.keep b o (base.keep b o q n hb hx) (base.free b o q n hx) hb)
    · obtain ⟨sl, q1⟩ := base.slot b o q n hb hx
      obtain ⟨sl2, q2⟩ := ub.slot b _ q1 hb
      exact ⟨sl2, by rw [gF b hb]; exact q2⟩
    · obtain ⟨o', q1⟩ := base.there b o q hx
      exact ub.free b o' q1 (base.free b o q n hx)
    · obtain ⟨o', q1⟩ := base.there b o q hx
      by_cases hb : b ∈ frs X.stack
      · obtain ⟨sl2, q2⟩ := ub.slot b _ q1 hb
        exact ⟨_, by rw [gF b hb]; exact q2⟩
      · obtain ⟨o2, q2⟩ := ub.there b o' q1 hb
        exact ⟨o2, gB b o2 (old b o q) q2⟩
    · obtain ⟨m1, q1⟩ := base.tbls b ps q
      obtain ⟨m2, q2⟩ := ub.tbls b _ q1
      exact ⟨m1 ++ m2, by rw [q2, Array.append_assoc]⟩
  have hokG : HOk X.prog X.w H' G := fun b u q => (hok b u q).stay (fun c v hc r => gB c v (fun z => by
    subst z
    rcases hc with hc | hc
    · rw [hc, q] at HC; cases HC
    · rw [hc] at HC; cases HC) r) (fun _ r => r) fun _ _ r => r
  have J : Inv X pins σ H' { t with heap := G } := I.call' (ch := fp) (show t.os = s.os from os.trans Ib.os) un hokG ag fun b hb =>
    have z := (hfp b hb).1
    ⟨z.2.2.2.1, z.2.1, z.2.2.2.2.1, z.2.2.2.2.2⟩
  -- noted
  have hA : X.A.frames = some (X.env :: X.outer) := by rw [I.ok.frames, hst]
  rw [hst] at fl
  have eqn : noteFrame (.ref a) ce = noteFrame (.ref a) X.env := by
    unfold noteFrame PySem.frameOf
    rw [hF]
  show wpAny _ _ (noteFrame (.ref a) ce) _ _ t
  rw [eqn]
  refine HandSPX.looks_onZ Zc.steady hA hfr fl fun h1 held up1 => ?_
  obtain ⟨b1, b2, b3, oe, vs, T, oT, ts, he, hz, hd, hv, nT, hTe, hT, hdT, h3⟩ := held
  have nC : ∀ b, B.get? b = none → b ≠ ce.locals := fun b q z => by
    rw [z, BC] at q
    cases q
  refine ⟨m, ⟨oC, es, ep, b1 _ _ BC, dC⟩, fun h2 sb2 => ?_⟩
  have e2 : ∀ b, b ≠ ce.locals → h2.get? b = h1.get? b := sb2.2
  -- let go
  unfold PySem.passOn
  have q0 := (e2 a (nC a b2)).trans he
  refine wpAny_bind (wpAny_field (s := { t with heap := h2 }) q0 hd hv ?_)
  rw [if_neg (show ¬ ((Value.ref T == Value.none) = true) from by simp)]
  have B'of : ∀ b o, (PySem.W.hideAll B [ce.locals]).get? b = some o → b ≠ ce.locals ∧ B.get? b = some o := fun b o q => by
    refine ⟨fun z => ?_, PySem.W.of_hideAll _ q⟩
    rw [z, PySem.W.hideAll_none [ce.locals] (List.mem_singleton.mpr rfl)] at q
    cases q
  have none' : ∀ b, B.get? b = none → (PySem.W.hideAll B [ce.locals]).get? b = none := fun b q => by
    cases r : (PySem.W.hideAll B [ce.locals]).get? b with
    | none => rfl
    | some o => rw [(B'of b o r).2] at q; cases q
  have fin : wpAny (model X.prog X.w) X.A (setFlight (.ref a) ce.frame) (fun _ s4 => wpAny (model X.prog X.w) X.A (throw (.ref a) : Sem Value) (fun _ _ => False) X.xe s4) X.xe { t with heap := h2 } := by
    rw [hF, hfr]
    refine HandSPX.setFlight_anyZ (s := { t with heap := h2 }) (base := PySem.W.hideAll B [ce.locals]) (l := X.env :: X.outer) (fl := rawInt X.env.locals) (Z := Zc cls d) (fun b o q => ?_) (frames_but b3 fun L hL => ?_) ⟨oe, vs, T, oT, ts, q0, hz, hd, hv, none' _ nT, hTe, (e2 T (nC T nT)).trans hT, hdT, h3⟩ fun h4 k1 k2 k3 up4 => wpAny_throw (tk _ _ ?_)
    · have z := B'of b o q
      exact (e2 b z.1).trans (b1 b o z.2)
    · have z := (b3.mem hL).1
      exact ⟨none' _ z, e2 L (nC L z)⟩
    · refine ⟨a, PySem.W.hideAll B [ce.locals], _, pins, σ, H', cls, d, rfl, J, fun b o q hb => ?_, fun b o q hnf => ?_, .inr (.inr (by rw [hst]; exact ⟨k1, none' _ b2, k2, k3⟩)), na, rfl, ag, w⟩
      · obtain ⟨r1, r2, r3⟩ := gO b o q
        rcases r3 with r3 | r3
        · obtain ⟨o', r4⟩ := Option.isSome_iff_exists.mp r3
          have r5 := fl.1 b o' r4
          rw [r1] at r5
          cases r5
          exact PySem.W.hideAll_get _ r4 fun z => r2 (List.mem_singleton.mp z)
        · exact absurd r3 hb
      · obtain ⟨r1, r2, _⟩ := gO b o q
        obtain ⟨sl1, q1⟩ := up1 b o r1 hnf
        exact up4 b { o with slots := sl1 } ((e2 b r2).trans q1) hnf
  first
    | exact wpAny_bind (wpAny_pure (wpAny_bind fin))
    | exact wpAny_bind fin
end
end CompX

namespace CompX
open PySem PySem.Spec PyProof.Rows L2
/-- what is asked of the parts of a block that may let out EW's exceptions -/
abbrev InBlk (X : Cx) (scope : Scope) (EW : XK) (P : Cx → Prop) : Prop := ∀ (s : Shared) (H : Hp) (C : Addr) (cl : List (Str × Addr)) (fp : List Addr) (xe : Value → Shared → Prop),
  Passes (L2.CX X.prog X.w) (Blk X s H scope (compEnvC scope cl C X.env) fp xe) EW → P (Blk X s H scope (compEnvC scope cl C X.env) fp xe)
section
variable {X : Cx} {EW : XK}
theorem comp_core {pins : List (Addr × Obj)} {s : Shared} {σ : L2.St} {H : Hp} {Q : VK} {elt tg iter : Expr} {ifs : List Expr} {scope : Scope} {own : List (Str × Nat)} {pos pos' : Pos} {wi : TI} {g : TG} {tt : TT} {te : TE} {use : Option (Value → Sem Unit)} {Qf : Value → Shared → Prop}
    (hst : X.stack = X.env :: X.outer) (hfr : X.env.frame = some X.env.locals) (tk : L2.Takes X fun cls d _ H => EW cls d H) (calm : X.calm = true) (nd : X.N.Nodup) (I : Inv X pins σ H s) (pi : PI X tg iter wi) (bok : BlkOk X.N X.env.scope scope own)
    (pg : InBlk X scope EW fun Y => PG Y tg g) (pt : InBlk X scope EW fun Y => PTs Y ifs tt) (pe : InBlk X scope EW fun Y => PE Y elt te) (hs : ∀ x, foldedSetIterable iter X.env x = pure x) (h : tLc wi g tt te (own.map (·.2)) σ H Q)
    (last : ∀ D C t m H', Inv X pins σ H' t → Q (.ref D) H' → t.heap.Ns C m → FpOk X pins H' C → compPost (model X.prog X.w) X.A X.xe use Qf (.ref D) C (.ok .next) t) :
    wpAny (model X.prog X.w) X.A (comprehension (.ListComp elt [⟨tg, iter, ifs, 0⟩] scope pos) scope X.env pos' (newList []) false (eval iter X.env) use) Qf X.xe s := by
  have caps : ∀ y ∈ scope.names, y.2 = .free → ∃ c, X.env.cells.lookup y.1 = some c := fun y hy e =>
    (bok.free y hy e).elim (fun k => I.ok.has _ (.inl k)) fun k => I.ok.has _ (.inr k)
  refine comp_rule (use := use) rfl hs (closure_ok caps) bok.kind (fun y hy e => (bok.uniq y hy).trans (congrArg some e)) ?_
  refine thn (pi.run pins s σ H _ I h) fun xv t1 hx => thn hx fun iv t2 ⟨it, fp, tn, J, H2, e0, I2, T, st2, f2, q⟩ => ?_
  subst e0
  refine wpAny_newObj_type (newEnv_comp ?_) (Nat.zero_le _)
  obtain ⟨D, hD⟩ : ∃ D, t2.heap.objs.size = D := ⟨_, rfl⟩
  rw [hD]
  obtain ⟨W, ⟨m0, w0⟩, turn⟩ := q D (I2.hok.fresh (Nat.le_of_eq hD))
  -- the list is laid
  obtain ⟨t3, ht3⟩ : ∃ t : Shared, t = { t2 with heap := t2.heap.push { cls := .type "list", data := .seq ([] : List Value).toArray } } := ⟨_, rfl⟩
  have k3 : ∀ b o, t2.heap.get? b = some o → t3.heap.get? b = some o := fun b o e => by
    rw [ht3]
    exact Heap.get?_push_of_some _ e
  have I3 : Inv X pins σ (upd H2 D (.lst [])) t3 := by
    subst ht3
    refine I2.laid (t' := t2.toks) (fun b o e => Heap.get?_push_of_some _ e) (Nat.le_of_eq hD) ⟨Nat.zero_le _, [], 0, .nil, ?_⟩
    subst hD
    exact Heap.get?_push_size _ rfl
  have st3 : tn 0 t3.heap := T.keep _ _ _ st2 fun b _ o e => k3 b o e
  have f3 : ∀ b ∈ fp, FpOk X pins (upd H2 D (.lst [])) b ∧ b < t3.heap.objs.size := fun b hb => by
    obtain ⟨o, e, _⟩ := T.obj _ _ st2 b hb
    have nb : b ≠ D := by
      rw [← hD]
      exact Nat.ne_of_lt (Heap.lt_size e)
    exact ⟨⟨(upd_ne nb).trans (f2 b hb).1, (f2 b hb).2⟩, Heap.lt_size (k3 b o e)⟩
  have I4 := block_start I3 bok nd f3
  rw [← ht3]
  -- the block's frame
  obtain ⟨cl, hcl⟩ : ∃ cl, cellsFrom (t3.heap.objs.size + 1) scope.names (cloFrom X.env.cells scope.names []) = cl := ⟨_, rfl⟩
  rw [hcl] at I4
  have hcl' : cellsFrom (t2.heap.push { cls := .type "list", data := .seq ([] : List Value).toArray }).objs.size.succ scope.names (cloFrom X.env.cells scope.names []) = cl := by
    rw [← hcl, ht3]
  obtain ⟨ce, hce⟩ : ∃ ce, compEnvC scope cl t3.heap.objs.size X.env = ce := ⟨_, rfl⟩
  have cL : ce.locals = t3.heap.objs.size := by rw [← hce]; rfl
  have cF : ce.frame = X.env.frame := by rw [← hce]; rfl
  obtain ⟨H3, hH3⟩ : ∃ H3, upd H2 D (.lst []) = H3 := ⟨_, rfl⟩
  rw [hH3] at I3 I4 w0 f3
  rw [hce] at I4
  obtain ⟨t4, ht4⟩ : ∃ t : Shared, t = { t3 with heap := pushCells (t3.heap.push { cls := .type "dict", data := .dict #[] }) scope.names } := ⟨_, rfl⟩
  rw [← ht4] at I4
  have st4 : tn 0 t4.heap := T.keep _ _ _ st3 fun b _ o e => by
    rw [ht4]
    exact pushCells_keeps _ _ _ _ (Heap.get?_push_of_some _ e)
  show codeAny _ _ (.compStart (.ListComp elt [⟨tg, iter, ifs, 0⟩] scope pos) 0 (.ref it) (.ref D) (compEnvC scope (cellsFrom (t3.heap.objs.size + 1) scope.names (cloFrom X.env.cells scope.names [])) t3.heap.objs.size X.env))
    (Behind (model X.prog X.w) X.A X.xe use Qf (.ref D) (compEnvC scope (cellsFrom (t3.heap.objs.size + 1) scope.names (cloFrom X.env.cells scope.names [])) t3.heap.objs.size X.env))
    { t3 with heap := pushCells (t3.heap.push { cls := .type "dict", data := .dict #[] }) scope.names }
  rw [hcl, hce, ← ht4]
  obtain ⟨xe, hxe⟩ : ∃ xe, xe = notedBy (model X.prog X.w) X.A ce (fun e t => Behind (model X.prog X.w) X.A X.xe use Qf (.ref D) ce (.error e) t) := ⟨_, rfl⟩
  -- what a call lets out goes out
  have pass : Passes (L2.CX X.prog X.w) (Blk X t3 H3 scope ce fp xe) EW := fun pb σb Hb sb e t Ib c => by
    show xe e t
    rw [hxe]
    exact out_of hst hfr tk I3 f3 cL cF Ib c
  have pg' : PG (Blk X t3 H3 scope ce fp xe) tg g := by
    subst hce
    exact pg t3 H3 _ cl fp xe pass
  have pt' : PTs (Blk X t3 H3 scope ce fp xe) ifs tt := by
    subst hce
    exact pt t3 H3 _ cl fp xe pass
  have pe' : PE (Blk X t3 H3 scope ce fp xe) elt te := by
    subst hce
    exact pe t3 H3 _ cl fp xe pass
  have I4 : Inv (Blk X t3 H3 scope ce fp xe) [] (wipe σ (own.map (·.2))) H3 t4 := I4.wish xe
  have fpOk : ∀ {σ' : L2.St} {H' : Hp} {t : Shared}, Inv (Blk X t3 H3 scope ce fp xe) [] σ' H' t → (∀ b ∈ fp, H' b = none) → ∀ b ∈ fp, FpOk (Blk X t3 H3 scope ce fp xe) [] H' b := fun {σ' H' t} I' n b hb =>
    ⟨n b hb, (I'.ok.exf b hb).1, I'.ok.exfs b hb, .inl hb, fun x c e => (I'.ok.exf b hb).2 x c e, fun p hp => absurd (show p ∈ ([] : List (Addr × Obj)) ++ [] from hp) (by simp)⟩
  have loop : codeAny (model X.prog X.w) X.A (.compLoop (.ListComp elt [⟨tg, iter, ifs, 0⟩] scope pos) 0 (.ref it) (.ref D) ce) (Behind (model X.prog X.w) X.A X.xe use Qf (.ref D) ce) t4 := by
    refine compLoop_any (fun n t => ∃ i H', Inv (Blk X t3 H3 scope ce fp xe) [] (wipe σ (own.map (·.2))) H' t ∧ tn i t.heap ∧ (∀ b ∈ fp, H' b = none) ∧ W i n H') ?_ m0 ⟨0, H3, I4, st4, fun b hb => (f3 b hb).1.1, w0⟩
    rw [← hxe]
    rintro n t5 ⟨i, H5, I5, st5, n5, w5⟩
    rcases turn i n H5 w5 with ⟨stop, qq⟩ | ⟨go, Nx, hNx, step⟩
    · refine thnF (T.done (Blk X t3 H3 scope ce fp xe) rfl rfl rfl calm i [] t5 _ H5 (fun _ _ => False) I5 (fpOk I5 n5) st5 stop) fun r t6 ⟨hr, I6⟩ => ?_
      subst hr
      have u6 : Un (frs X.stack) fp H3 H5 t3.heap t6.heap := I6.base
      have J : Inv X pins σ H5 t6 := I3.call' (ch := fp) I6.os u6 I6.hok I6.bare fun b hb =>
        have z := (f3 b hb).1
        ⟨z.2.2.2.1, z.2.1, z.2.2.2.2.1, z.2.2.2.2.2⟩
      have fC : H5 ce.locals = none := I6.free
      obtain ⟨m, hn, _⟩ := I6.loc
      exact last D ce.locals t6 m H5 J qq hn (by rw [cL] at fC ⊢; exact I3.fpOk (Nat.le_refl _) fC)
    · refine thnF (T.item (Blk X t3 H3 scope ce fp xe) rfl rfl rfl calm i [] t5 _ H5 (fun _ _ => False) I5 (fpOk I5 n5) st5 go) fun r t6 ⟨u, hr, h6⟩ => ?_
      subst hr
      refine thnF h6 fun _ t7 ⟨x, H7, I7, r7, y7, st7, n7⟩ => ?_
      have P7 := I7.pinned (fpOk I7 n7) (T.obj _ _ st7)
      refine thn (pg'.run _ t7 _ H7 x u _ P7 r7 (step x H7 y7)) fun _ t8 ⟨σ8, H8, I8, hw8, q8⟩ => ?_
      refine thn (pt'.run _ t8 σ8 H8 _ I8 q8) fun b t9 ⟨H9, I9, q9⟩ => ?_
      have next : ∀ {t : Shared} {H' : Hp}, Inv (Blk X t3 H3 scope ce fp xe) ([] ++ pinsAt fp t7.heap) σ8 H' t → Nx H' →
          ∃ m, m < n ∧ ∃ i H', Inv (Blk X t3 H3 scope ce fp xe) [] (wipe σ (own.map (·.2))) H' t ∧ tn i t.heap ∧ (∀ b ∈ fp, H' b = none) ∧ W i m H' := fun {t H'} I' nx => by
        obtain ⟨m', hm, w'⟩ := hNx H' nx
        have stays : ∀ b ∈ fp, ∀ o, t7.heap.get? b = some o → t.heap.get? b = some o ∧ H' b = none := fun b hb o e =>
          have z := I'.pin (b, o) (List.mem_append_right _ (List.mem_append_right _ (mem_pinsAt hb e)))
          ⟨z.1, z.2.1⟩
        refine ⟨m', hm, i + 1, H', (I'.unpinned (pins := [])).weak (by rw [← hw8, wipe_length]) fun j v e => ?_, T.keep _ _ _ st7 fun b hb o e => (stays b hb o e).1, fun b hb => ?_, w'⟩
        · rw [← hw8] at e
          exact (wipe_some e).1
        · obtain ⟨o, e, _⟩ := T.obj _ _ st7 b hb
          exact (stays b hb o e).2
      cases b with
      | false =>
        simp only [Bool.false_eq_true, if_false] at q9 ⊢
        exact next I9 q9
      | true =>
        simp only [if_true] at q9 ⊢
        refine thn (pe'.run _ t9 σ8 H9 _ I9 q9) fun z t10 ⟨y, H10, I10, r10, acc, hD10, hz10, nx⟩ => ?_
        exact app_ok (X := Blk X t3 H3 scope ce fp xe) I10 hD10 hz10 r10 fun t11 I11 => next I11 nx
  exact codeAny_compStart_list loop (T.self X.A 0 _ _ _ st4 loop)
/-- [..] as a value, whose parts may raise -/
theorem pe_lcX {elt tg iter : Expr} {ifs : List Expr} {scope : Scope} {own : List (Str × Nat)} {pos : Pos} {wi : TI} {g : TG} {tt : TT} {te : TE} (hst : X.stack = X.env :: X.outer) (hfr : X.env.frame = some X.env.locals) (tk : L2.Takes X fun cls d _ H => EW cls d H)
    (calm : X.calm = true) (nd : X.N.Nodup) (pi : PI X tg iter wi) (bok : BlkOk X.N X.env.scope scope own) (pg : InBlk X scope EW fun Y => PG Y tg g) (pt : InBlk X scope EW fun Y => PTs Y ifs tt) (pe : InBlk X scope EW fun Y => PE Y elt te)
    (hs : ∀ x, foldedSetIterable iter X.env x = pure x := by intro _; rfl) : PE X (.ListComp elt [⟨tg, iter, ifs, 0⟩] scope pos) (tLc wi g tt te (own.map (·.2))) := by
  refine ⟨fun pins s σ H Q I h => ?_⟩
  rw [eval_ListComp]
  refine comp_core hst hfr tk calm nd I pi bok pg pt pe hs h fun D C t m H' J q hn ⟨a0, a1, _, a3, a4, a5⟩ => ⟨m, hn, fun g2 sb => ?_⟩
  exact ⟨.ref D, H', J.turned (t' := t.toks) (fun b o n e => (sb.2 b n).trans e) a0 a1 a3 a4 a5, rfl, q⟩
/-- name = [..] on one row -/
theorem ps_setLcX {i : Nat} {y : Str} {py : Pos} {elt tg iter : Expr} {ifs : List Expr} {scope : Scope} {own : List (Str × Nat)} {pos spos : Pos} {wi : TI} {g : TG} {tt : TT} {te : TE} (hst : X.stack = X.env :: X.outer) (hfr : X.env.frame = some X.env.locals) (tk : L2.Takes X fun cls d _ H => EW cls d H)
    (calm : X.calm = true) (nd : X.N.Nodup) (hy : X.N[i]? = some y) (hyl : X.env.scope.names.lookup y = some .local) (hsw : swapsWith (.ListComp elt [⟨tg, iter, ifs, 0⟩] scope pos) (some (.Name y py)) spos.line X.env = pure true)
    (pi : PI X tg iter wi) (bok : BlkOk X.N X.env.scope scope own) (pg : InBlk X scope EW fun Y => PG Y tg g) (pt : InBlk X scope EW fun Y => PTs Y ifs tt) (pe : InBlk X scope EW fun Y => PE Y elt te)
    (hs : ∀ x, foldedSetIterable iter X.env x = pure x := by intro _; rfl) : PS X (.Assign [.Name y py] (.ListComp elt [⟨tg, iter, ifs, 0⟩] scope pos) spos) (tAsg (tLc wi g tt te (own.map (·.2))) (gName i)) := by
  refine ⟨fun pins s σ H D I h => ?_⟩
  have h : tLc wi g tt te (own.map (·.2)) σ H (fun x H1 => gName i x σ H1 D.nx) := h
  rw [exec_Assign_Name_used _ _ _ _ hsw]
  refine wpAny_bind (wpAny_standAt (wpAny_bind (wpAny_bind ?_)))
  refine thn (comp_core (Qf := fun _ t => SP X pins D .next t) hst hfr tk calm nd I pi bok pg pt pe hs h fun P C t m H' J q hn ⟨a0, a1, _, a3, a4, a5⟩ => ?_) fun _ t hq => wpAny_pure (wpAny_pure hq)
  show wpAny _ _ (assign (.Name y py) X.env (.ref P)) _ _ _
  refine wpAny_assign_Name (store_ok2 (v := V.ref P) J nd hy (.inl hyl) rfl (fun t2 J2 ⟨a, sb, ha⟩ => ?_) (.inr hyl))
  have nC : C ≠ a := by
    rintro rfl
    exact ha.elim a1 fun z => a4 y C z rfl
  exact ⟨m, hn.sameBut sb nC, fun g2 sb2 => ⟨_, H', J2.turned (t' := t2.toks) (fun b o n e => (sb2.2 b n).trans e) a0 a1 a3 a4 a5, q⟩⟩
end
end CompX

/-! ### promises with refusals -/
namespace GT
open PySem PySem.Spec PyProof.Rows L2
section
variable {K : Fg} {B : Hp} {O : Own} {L : Sl} {te ta tb tx : TE} {t u : TT} {D : Ends} {tu tw : TS} {g : TG} {E : XK}
/-- an expression that lets an exception out -/
def Rx (K : Fg) (B : Hp) (O : Own) (L : Sl) (te : TE) : Prop := ∀ σ H, Sat K B O L σ H → ∀ Q : VK, te σ H Q
def RxT (K : Fg) (B : Hp) (O : Own) (L : Sl) (t : TT) : Prop := ∀ σ H, Sat K B O L σ H → ∀ Q : Bool → Hp → Prop, t σ H Q
theorem rx_test (h : Rx K B O L te) : RxT K B O L (tTest te) := fun σ H s Q => h σ H s _
theorem rx_B (h : Rx K B O L te) : RxT K B O L (tB te) := fun σ H s Q => h σ H s _
theorem rx_not (h : RxT K B O L t) : RxT K B O L (tNot t) := fun σ H s Q => h σ H s _
theorem s_rxD (h : Rx K B O L te) : Nx K B O L (tDrop te D) := fun σ H s => h σ H s _
theorem s_rxA (h : Rx K B O L te) : Nx K B O L (tAsg te g D) := fun σ H s => h σ H s _
theorem s_rxR (h : Rx K B O L te) : Nx K B O L (tRet te D) := fun σ H s => h σ H s _
theorem s_rxI (h : RxT K B O L t) : Nx K B O L (tIfS t tu tw D) := fun σ H s => h σ H s _
/-- raise C -/
theorem s_raise {C : Addr} {P : L2.St → Hp → Prop} (h : ∀ H', Same B H' → E (.ref C) none H') (e : P = fun _ H => E (.ref C) none H := by rfl) : Nx K B O L P := fun σ H s => by
  rw [e]
  exact h H s.ex
/-- res x, or the exception of the class out x; nothing is changed -/
def SpE (K : Fg) {α : Type} (as : α → List As) (pre : α → Prop) (out : α → Option Addr) (res : α → Rs) : Sp := fun vs H Q E => ∃ x, pre x ∧ AsA K H vs (as x) ∧ (out x = none → Rt K H Q (res x)) ∧ ∀ C, out x = some C → ∀ H', Same H H' → E (.ref C) none H'
theorem ev_callE {α : Type} {as : α → List As} {pre : α → Prop} {out : α → Option Addr} {res : α → Rs} {tr : TA} {rs : List Rs} (x : α) (h : EvA K B O L tr rs) (hp : pre x) (ho : out x = none) (ha : AsAll K B O rs (as x)) : Ev K B O L (tCall (SpE K as pre out res) [] E tr) (res x) := fun σ H s Q q =>
  h σ H s _ fun vs H1 e1 r1 => by
    show SpE K as pre out res (vs ++ []) H1 Q E
    rw [List.append_nil]
    exact ⟨x, hp, ha.run s e1 r1, fun _ v H2 e2 r2 => q v H2 (e1.trans e2) (r2.back e1), fun C z => by rw [ho] at z; cases z⟩
theorem rx_call {α : Type} {as : α → List As} {pre : α → Prop} {out : α → Option Addr} {res : α → Rs} {tr : TA} {rs : List Rs} {C : Addr} (x : α) (h : EvA K B O L tr rs) (hp : pre x) (ho : out x = some C) (ha : AsAll K B O rs (as x)) (hE : ∀ H', Same B H' → E (.ref C) none H') :
    Rx K B O L (tCall (SpE K as pre out res) [] E tr) := fun σ H s Q =>
  h σ H s _ fun vs H1 e1 r1 => by
    show SpE K as pre out res (vs ++ []) H1 Q E
    rw [List.append_nil]
    refine ⟨x, hp, ha.run s e1 r1, fun z => (nomatch ho.symm.trans z), fun C' z H' e => ?_⟩
    rw [ho] at z
    cases z
    exact hE H' ((s.ex.trans e1).trans e)
/-- a method of an instance that stands in the ground -/
theorem ev_methE {α : Type} {as : α → List As} {pre : α → Prop} {out : α → Option Addr} {res : α → Rs} {C : Addr} {m : Str} {tr : TA} {rs : List Rs} {a dx : Addr} {gs : List (Str × V)} (x : α) (ho : Ev K B O L ta (.dat (.adr a))) (hi : B a = some (.ins C dx gs)) (hm : gs.lookup m = none)
    (h : EvA K B O L tr rs) (hp : pre x) (hx : out x = none) (ha : AsAll K B O (.dat (.adr a) :: rs) (as x)) : Ev K B O L (tMeth C m (SpE K as pre out res) [] E ta tr) (res x) := fun σ H s Q q =>
  ho σ H s _ fun v H1 e1 r1 => by
    have r1' : RsR K H H1 v (.dat (.adr a)) := r1
    cases r1
    refine ⟨a, dx, gs, rfl, (s.same e1).ex _ _ hi, hm, h σ H1 (s.same e1) _ fun vs H2 e2 r2 => ?_⟩
    show SpE K as pre out res (.ref a :: (vs ++ [])) H2 Q E
    rw [List.append_nil]
    exact ⟨x, hp, ha.run s (e1.trans e2) (.cons (r1'.same e2) (r2.back e1)), fun _ v H3 e3 r3 => q v H3 ((e1.trans e2).trans e3) (r3.back (e1.trans e2)), fun C z => by rw [hx] at z; cases z⟩
theorem rx_meth {α : Type} {as : α → List As} {pre : α → Prop} {out : α → Option Addr} {res : α → Rs} {C C' : Addr} {m : Str} {tr : TA} {rs : List Rs} {a dx : Addr} {gs : List (Str × V)} (x : α) (ho : Ev K B O L ta (.dat (.adr a))) (hi : B a = some (.ins C dx gs)) (hm : gs.lookup m = none)
    (h : EvA K B O L tr rs) (hp : pre x) (hx : out x = some C') (ha : AsAll K B O (.dat (.adr a) :: rs) (as x)) (hE : ∀ H', Same B H' → E (.ref C') none H') : Rx K B O L (tMeth C m (SpE K as pre out res) [] E ta tr) := fun σ H s Q =>
  ho σ H s _ fun v H1 e1 r1 => by
    have r1' : RsR K H H1 v (.dat (.adr a)) := r1
    cases r1
    refine ⟨a, dx, gs, rfl, (s.same e1).ex _ _ hi, hm, h σ H1 (s.same e1) _ fun vs H2 e2 r2 => ?_⟩
    show SpE K as pre out res (.ref a :: (vs ++ [])) H2 Q E
    rw [List.append_nil]
    refine ⟨x, hp, ha.run s (e1.trans e2) (.cons (r1'.same e2) (r2.back e1)), fun z => (nomatch hx.symm.trans z), fun C2 z H' e => ?_⟩
    rw [hx] at z
    cases z
    exact hE H' ((s.ex.trans (e1.trans e2)).trans e)
/-- what an __init__ with refusals promises -/
def SpInitE (K : Fg) (C : Addr) {α : Type} (as : α → List As) (pre : α → Prop) (out : α → Option Addr) (φ : α → Mono) : Sp := fun vs H Q E => ∃ x slf dx ws B, pre x ∧ vs = .ref slf :: ws ∧ B slf = none ∧ Same B H ∧ H slf = some (.ins C dx []) ∧ AsA K B ws (as x) ∧
  (out x = none → ∀ H', Same B H' → (φ x).p H' slf → Q .non H') ∧ ∀ C', out x = some C' → ∀ H', Same B H' → E (.ref C') none H'
theorem ev_makeE {C : Addr} {α : Type} {as : α → List As} {pre : α → Prop} {out : α → Option Addr} {φ : α → Mono} {tl : TA} {rs : List Rs} (x : α) (h : EvA K B O L tl rs) (hp : pre x) (ho : out x = none) (ha : AsAll K B O rs (as x)) : Ev K B O L (tMake C (SpInitE K C as pre out φ) [] E tl) (.obj (φ x)) := fun σ H s Q q =>
  h σ H s _ fun vs H1 e1 r1 y dx hy hdx hne => by
    have e2 : Same H1 (upd (upd H1 dx (.own y)) y (.ins C dx [])) := (Same.new hdx).trans (Same.new (by rw [upd_ne (fun z => hne z.symm)]; exact hy))
    show SpInitE K C as pre out φ (.ref y :: (vs ++ [])) _ _ E
    rw [List.append_nil]
    exact ⟨x, y, dx, vs, H1, hp, rfl, hy, e2, upd_same, ha.run s e1 r1, fun _ H' e3 h3 => ⟨rfl, q _ H' (e1.trans e3) ⟨y, rfl, h3⟩⟩, fun C' z => by rw [ho] at z; cases z⟩
theorem rx_make {C C' : Addr} {α : Type} {as : α → List As} {pre : α → Prop} {out : α → Option Addr} {φ : α → Mono} {tl : TA} {rs : List Rs} (x : α) (h : EvA K B O L tl rs) (hp : pre x) (ho : out x = some C') (ha : AsAll K B O rs (as x)) (hE : ∀ H', Same B H' → E (.ref C') none H') :
    Rx K B O L (tMake C (SpInitE K C as pre out φ) [] E tl) := fun σ H s Q =>
  h σ H s _ fun vs H1 e1 r1 y dx hy hdx hne => by
    have e2 : Same H1 (upd (upd H1 dx (.own y)) y (.ins C dx [])) := (Same.new hdx).trans (Same.new (by rw [upd_ne (fun z => hne z.symm)]; exact hy))
    show SpInitE K C as pre out φ (.ref y :: (vs ++ [])) _ _ E
    rw [List.append_nil]
    refine ⟨x, y, dx, vs, H1, hp, rfl, hy, e2, upd_same, ha.run s e1 r1, fun z => (nomatch ho.symm.trans z), fun C2 z H' e => ?_⟩
    rw [ho] at z
    cases z
    exact hE H' ((s.ex.trans e1).trans e)
/-- a comprehension over a list whose test raises at some item -/
theorem rx_lcA {α : Type} {enc : α → Dt} {ys : List α} {p ok : α → Bool} {f : α → Dt} {j : Nat} {a : Addr} {tl : TE} (h : Ev K B O L tl (.dat (.adr a))) (hl : Ls K B O (.dat (.adr a)) (ys.map enc)) (hz : ys.length ≤ 100000)
    (ht : ∀ y, y ∈ ys → ok y = true → EvT K B O (L.set j (some (enc y))) t (p y)) (hr : ∀ y, y ∈ ys → ok y = false → RxT K B O (L.set j (some (enc y))) t) (he : ∀ y, y ∈ ys → ok y = true → p y = true → Ev K B O (L.set j (some (enc y))) te (.dat (f y)))
    (bad : ∃ y, y ∈ ys ∧ ok y = false) : Rx K B O L (tLc (iList K tl) (gName j) t te [j]) := fun σ H s Q =>
  h σ H s _ fun v H1 e1 r1 => by
    have s1 := s.same e1
    obtain ⟨b, vs, hb, h2, h3⟩ := hl L σ H1 H1 v s1 (.refl _) r1
    cases r1
    cases hb
    refine ⟨a, rfl, ⟨vs, h2⟩, fun Dl hD => lc_list (xs := vs) (fun i H => LcW K H1 Dl (((ys.take i).filter p).map f) H ∧ ∀ y, y ∈ ys.take i → ok y = true) ⟨⟨hD, Same.new hD, [], upd_same, .nil⟩, fun y hy => by simp at hy⟩ (fun i H' _ w => w.1.ex.seq h2) (fun i x H' hx ⟨w, hok⟩ => ?_) fun H' ⟨w, hok⟩ => ?_⟩
    · obtain ⟨d, hd, rd⟩ := h3.getV hx
      rw [List.getElem?_map] at hd
      cases hy : ys[i]? with
      | none => rw [hy] at hd; cases hd
      | some y =>
        rw [hy] at hd
        cases hd
        have hlt : i < ys.length := (List.getElem?_eq_some_iff.mp hy).1
        have et : ys.take (i + 1) = ys.take i ++ [y] := by rw [List.take_add_one, hy]; rfl
        have hm : y ∈ ys := List.mem_of_getElem? hy
        have sj := (s1.same w.ex).wiped (j := j) (rd.same w.ex)
        refine ⟨wipe1 σ j _, ?_⟩
        cases hoy : ok y with
        | false => exact hr y hm hoy _ H' sj _
        | true =>
          have hok' : ∀ z, z ∈ ys.take (i + 1) → ok z = true := fun z hz' => by
            rw [et] at hz'
            rcases List.mem_append.mp hz' with hz' | hz'
            · exact hok z hz'
            · rw [List.mem_singleton.mp hz']
              exact hoy
          refine ht y hm hoy _ H' sj _ fun H3 e3 => ?_
          cases hp : p y with
          | true =>
            show te _ H3 _
            refine he y hm hoy hp _ H3 (sj.same e3) _ fun u H4 e4 r4 => ?_
            have l : (((ys.take i).filter p).map f).length < 100000 := by
              rw [List.length_map]
              exact Nat.lt_of_le_of_lt (List.length_filter_le _ _) (by rw [List.length_take]; omega)
            obtain ⟨acc, a1, a2, a3⟩ := w.add (e3.trans e4) r4 l
            refine ⟨acc, a1, a2, ?_, hok'⟩
            rw [et, filter_snoc, hp, if_pos rfl]
            exact a3
          | false =>
            show LcW K H1 Dl _ H3 ∧ _
            refine ⟨?_, hok'⟩
            rw [et, filter_snoc, hp, if_neg (by decide), List.append_nil]
            exact ⟨w.new, w.ex.trans e3, let ⟨vs, h1, h2⟩ := w.lst; ⟨vs, e3 _ _ h1, h2.same e3⟩⟩
    · have el : vs.length = ys.length := by rw [h3.length]; simp
      rw [el, List.take_length] at hok
      obtain ⟨y, hy, hn⟩ := bad
      rw [hok y hy] at hn
      cases hn
/-- .. whose item raises -/
theorem rx_lcI {α : Type} {enc : α → Dt} {ys : List α} {ok : α → Bool} {f : α → Dt} {j : Nat} {a : Addr} {tl : TE} (h : Ev K B O L tl (.dat (.adr a))) (hl : Ls K B O (.dat (.adr a)) (ys.map enc)) (hz : ys.length ≤ 100000)
    (hr : ∀ y, y ∈ ys → ok y = false → Rx K B O (L.set j (some (enc y))) te) (he : ∀ y, y ∈ ys → ok y = true → Ev K B O (L.set j (some (enc y))) te (.dat (f y)))
    (bad : ∃ y, y ∈ ys ∧ ok y = false) : Rx K B O L (tLc (iList K tl) (gName j) tYes te [j]) := fun σ H s Q =>
  h σ H s _ fun v H1 e1 r1 => by
    have s1 := s.same e1
    obtain ⟨b, vs, hb, h2, h3⟩ := hl L σ H1 H1 v s1 (.refl _) r1
    cases r1
    cases hb
    refine ⟨a, rfl, ⟨vs, h2⟩, fun Dl hD => lc_list (xs := vs) (fun i H => LcW K H1 Dl ((ys.take i).map f) H ∧ ∀ y, y ∈ ys.take i → ok y = true) ⟨⟨hD, Same.new hD, [], upd_same, .nil⟩, fun y hy => by simp at hy⟩ (fun i H' _ w => w.1.ex.seq h2) (fun i x H' hx ⟨w, hok⟩ => ?_) fun H' ⟨w, hok⟩ => ?_⟩
    · obtain ⟨d, hd, rd⟩ := h3.getV hx
      rw [List.getElem?_map] at hd
      cases hy : ys[i]? with
      | none => rw [hy] at hd; cases hd
      | some y =>
        rw [hy] at hd
        cases hd
        have hlt : i < ys.length := (List.getElem?_eq_some_iff.mp hy).1
        have et : ys.take (i + 1) = ys.take i ++ [y] := by rw [List.take_add_one, hy]; rfl
        have hm : y ∈ ys := List.mem_of_getElem? hy
        have sj := (s1.same w.ex).wiped (j := j) (rd.same w.ex)
        refine ⟨wipe1 σ j _, ?_⟩
        show te _ H' _
        cases hoy : ok y with
        | false => exact hr y hm hoy _ H' sj _
        | true =>
          refine he y hm hoy _ H' sj _ fun u H4 e4 r4 => ?_
          obtain ⟨acc, a1, a2, a3⟩ := w.add e4 r4 (by rw [List.length_map, List.length_take]; omega)
          refine ⟨acc, a1, a2, ?_, fun z hz' => ?_⟩
          · rw [et, List.map_append]
            exact a3
          · rw [et] at hz'
            rcases List.mem_append.mp hz' with hz' | hz'
            · exact hok z hz'
            · rw [List.mem_singleton.mp hz']
              exact hoy
    · have el : vs.length = ys.length := by rw [h3.length]; simp
      rw [el, List.take_length] at hok
      obtain ⟨y, hy, hn⟩ := bad
      rw [hok y hy] at hn
      cases hn
end
/-! defs that may raise -/
theorem passOwn {P : Program} {w : World} {K : Fg} {mg : Str → Option Value} {base : Heap} {N : List Str} {qual : Str} {sc : Scope} {f : Addr} {cd : Value} {A : Around} {outer : List Env} {s : Shared} {H : Hp} {E : XK} :
    Passes (L2.CX P w) (cxOf (L2.CX P w) P w K mg base N qual sc f cd A outer s H E) E := passes_call (takes_of rfl rfl rfl rfl) fun _ _ _ _ h => h
theorem toCX {P : Program} {w : World} {outer : List Env} {H : Hp} {s : Shared} {E : XK} {u : Value} {s' : Shared} (c : L2N.CX P w outer H s E u s') : L2.CX P w outer H s E u s' := by
  obtain ⟨a, B, H', cls, d, h1, h2, r⟩ := c
  exact ⟨a, B, H', cls, d, h1, L2H.flyingZ_imp (fun o z => z.zc) h2, r⟩
/-- .. of a callee whose exceptions have no context -/
theorem passOwnN {P : Program} {w : World} {K : Fg} {mg : Str → Option Value} {base : Heap} {N : List Str} {qual : Str} {sc : Scope} {f : Addr} {cd : Value} {A : Around} {outer : List Env} {s : Shared} {H : Hp} {E : XK} :
    Passes (L2N.CX P w) (cxOf (L2.CX P w) P w K mg base N qual sc f cd A outer s H E) E := fun pins σ H' s' e t I c => passOwn pins σ H' s' e t I (toCX c)
/-- the rest of a block that is never reached -/
theorem pss_dead {X : Cx} {rest : List Stmt} : PSs X rest fun _ _ _ => False := ⟨fun _ _ _ _ _ _ h => h.elim⟩
section
variable {X : Cx} {CX : CXT} {k j : Nat} {ps : List Str} {sp : Sp} {E : L2.St → XK} {x m : Str} {p pos : Pos} {e : Expr} {es : List Expr} {t : TA}
theorem Cal.peS (F : Cal X.prog X.w X.K X.mg X.base CX k x ps sp) (hr : Room j X.A) (hx : ∀ σ, PassesAt CX X σ (E σ)) (ha : PA X (e :: es) t) (hk : k ≤ j := by decide) (hg : Gl X x := by rfl) (hdb : (x == ("__debug__" : Str)) = false := by decide)
    (he : starEach (e :: es) X.env = (false, eval e X.env) :: starEach es X.env := by rfl) (hpl : (backTo pos (starEach es X.env)).any (·.1) = false := by rfl) : PE X (.Call (.Name x p) (e :: es) [] pos) (tCallS sp E t) := by
  obtain ⟨f, fd, F, g, kp, b⟩ := F.ex
  exact pe_callS F (hr.mono hk) hg g kp b hx ha hdb he hpl
end
section
variable {P : Program} {w : World} {K : Fg} {mg : Str → Option Value} {base : Heap}
theorem calX_ok {x : Str} {st : Stmt} {N ps : List Str} {k : Nat} {α : Type} {as : α → List As} {pre : α → Prop} {out : α → Option Addr} {res : α → Rs} (T : At K mg x st ps) (S : FnScope N ps (defScope st)) (len : ∀ x, (as x).length = ps.length)
    (hbody : ∀ (f : Addr) (cdv : Value) (A : Around) (outer : List Env) (s : Shared) (B : Hp) (vs : List V) (R : VK) (E : XK) (y : α), Room k (A.deeper (envOfC x (defScope st) s.heap.objs.size f cdv)) → pre y → AsA K B vs (as y) → (out y = none → Rt K B R (res y)) → (∀ C, out y = some C → ∀ H', Same B H' → E (.ref C) none H') →
      ∃ t, PSs (cxOf (L2.CX P w) P w K mg base N x (defScope st) f cdv A outer s B E) (defBody st) t ∧ t { nx := fun _ H' => R .non H', rt := R } (L2.start N vs) B) : Cal P w K mg base (L2.CX P w) (k + 1) x ps (SpE K as pre out res) := by
  obtain ⟨f, fd, F, g, b⟩ := T
  exact ⟨f, fd, F.okX S (fun vs H Q E ⟨y, _, h, _⟩ => h.length.trans (len y)) fun cdv A outer s H vs Q E hr ⟨y, hp, ha, h1, h2⟩ => hbody f cdv A outer s H vs Q E y hr hp ha h1 h2, g, F.kp, b⟩
theorem calmX_ok {C : Addr} {m qual : Str} {st : Stmt} {N ps : List Str} {k : Nat} {α : Type} {as : α → List As} {pre : α → Prop} {out : α → Option Addr} {res : α → Rs} (T : AtM K C m qual st ps) (S : FnScope N ps (defScope st)) (len : ∀ x, (as x).length = ps.length)
    (hbody : ∀ (f : Addr) (cdv : Value) (A : Around) (outer : List Env) (s : Shared) (B : Hp) (vs : List V) (R : VK) (E : XK) (y : α), Room k (A.deeper (envOfC qual (defScope st) s.heap.objs.size f cdv)) → pre y → AsA K B vs (as y) → (out y = none → Rt K B R (res y)) → (∀ C, out y = some C → ∀ H', Same B H' → E (.ref C) none H') →
      ∃ t, PSs (cxOf (L2.CX P w) P w K mg base N qual (defScope st) f cdv A outer s B E) (defBody st) t ∧ t { nx := fun _ H' => R .non H', rt := R } (L2.start N vs) B) : CalM P w K mg base (L2.CX P w) (k + 1) C m ps (SpE K as pre out res) := by
  obtain ⟨c, f, fd, F, M, b⟩ := T
  exact ⟨c, f, fd, F.okX S (fun vs H Q E ⟨y, _, h, _⟩ => h.length.trans (len y)) fun cdv A outer s H vs Q E hr ⟨y, hp, ha, h1, h2⟩ => hbody f cdv A outer s H vs Q E y hr hp ha h1 h2, M, b⟩
theorem Fun.okN {x qual : Str} {st : Stmt} {f : Addr} {fd : FuncData} {N ps : List Str} {k : Nat} {sp : Sp} (F : Fun K x qual st f fd) (S : FnScope N ps (defScope st)) (len : ∀ vs H Q E, sp vs H Q E → vs.length = ps.length)
    (walk : ∀ (cdv : Value) (A : Around) (outer : List Env) (s : Shared) (H : Hp) (vs : List V) (Q : VK) (E : XK), Room k (A.deeper (envOfC qual (defScope st) s.heap.objs.size f cdv)) → sp vs H Q E →
      ∃ t, PSs (cxOf (L2N.CX P w) P w K mg base N qual (defScope st) f cdv A outer s H E) (defBody st) t ∧ t { nx := fun _ H' => Q .non H', rt := Q } (L2.start N vs) H) : FnOk P w K mg base (L2N.CX P w) (k + 1) f fd ps sp := by
  obtain ⟨_, _, _, _, _, _, cdv, _, _, rfl, at', co⟩ := F.ex
  exact fn_of at' co S len fun A outer s H vs Q E => walk cdv A outer s H vs Q E
theorem caliX_ok {C : Addr} {qual : Str} {st : Stmt} {N ps : List Str} {k : Nat} {α : Type} {as : α → List As} {pre : α → Prop} {out : α → Option Addr} {φ : α → Mono} (T : Mi K C qual st ps) (S : FnScope N ps (defScope st)) (len : ∀ x, (as x).length + 1 = ps.length)
    (hbody : ∀ (f : Addr) (cdv : Value) (A : Around) (outer : List Env) (s : Shared) (B H : Hp) (slf dx : Addr) (ws : List V) (R : VK) (E : XK) (y : α), Room k (A.deeper (envOfC qual (defScope st) s.heap.objs.size f cdv)) → pre y → B slf = none → Same B H → H slf = some (.ins C dx []) → AsA K B ws (as y) →
      (out y = none → ∀ H', Same B H' → (φ y).p H' slf → R .non H') → (∀ C, out y = some C → ∀ H', Same B H' → E (.ref C) none H') →
      ∃ t, PSs (cxOf (L2N.CX P w) P w K mg base N qual (defScope st) f cdv A outer s H E) (defBody st) t ∧ t { nx := fun _ H' => R .non H', rt := R } (L2.start N (.ref slf :: ws)) H) : CalI P w K mg base (L2N.CX P w) (k + 1) C ps (SpInitE K C as pre out φ) := by
  obtain ⟨f, fd, F, M, b⟩ := T
  refine ⟨f, fd, ?_, M, b⟩
  refine Fun.okN F S (fun vs H Q E ⟨y, slf, dx, ws, B, _, hv, _, _, _, h, _⟩ => ?_) fun cdv A outer s H vs Q E hr ⟨y, slf, dx, ws, B, hp, hv, h1, h2, h3, ha, hq, hx⟩ => ?_
  · rw [hv, List.length_cons, h.length]
    exact len y
  · subst hv
    exact hbody f cdv A outer s B H slf dx ws Q E y hr hp h1 h2 h3 ha hq hx
end
end GT

/-! ### rows of new objects; what is caught by name -/
namespace GT
open PySem PySem.Spec PyProof.Rows L2
section
variable {K : Fg} {B : Hp} {O : Own} {L : Sl} {te ta tb tx : TE} {t : TT} {D : Ends} {tu tw : TS} {g : TG} {E : XK}
/-- a row's items, new or not, one behind the other: F tells what is to follow from the own objects and the items -/
def Rw (K : Fg) (B : Hp) (O : Own) (L : Sl) (ta : TA) (F : Own → List Dt → Prop) : Prop := ∀ σ H, Sat K B O L σ H → ∀ Q : List V → Hp → Prop, (∀ O' ds vs H2, F O' ds → Same H H2 → Sat K B O' L σ H2 → TpA K H2 vs ds → Q vs H2) → ta σ H Q
theorem rw_nil {F : Own → List Dt → Prop} (h : F O []) : Rw K B O L tNil F := fun σ H s Q q => q O [] [] H h (.refl H) s .nil
theorem rw_new {tr : TA} {ob : Ob} {F : Own → List Dt → Prop} (h : Ev K B O L te (.new ob)) (k : ∀ p, Rw K B (O ++ [(p, ob)]) L tr fun O' ds => F O' (.adr p :: ds)) : Rw K B O L (tCons te tr) F := fun σ H s Q q =>
  h σ H s _ fun v H1 e1 ⟨p, hv, hn, r1⟩ => by
    subst hv
    exact k p σ H1 (s.addOwn e1 hn r1) _ fun O' ds vs H2 hF e2 s2 r2 => q O' (.adr p :: ds) (.ref p :: vs) H2 hF (e1.trans e2) s2 (.cons (.adr p) r2)
theorem rw_dat {tr : TA} {d : Dt} {F : Own → List Dt → Prop} (h : Ev K B O L te (.dat d)) (k : Rw K B O L tr fun O' ds => F O' (d :: ds)) : Rw K B O L (tCons te tr) F := fun σ H s Q q =>
  h σ H s _ fun v H1 e1 r1 => k σ H1 (s.same e1) _ fun O' ds vs H2 hF e2 s2 r2 => q O' (d :: ds) (v :: vs) H2 hF (e1.trans e2) s2 (.cons (Tp.same e2 r1) r2)
/-- the row itself, at r -/
theorem rw_lst {tr : TA} {F : Own → List Dt → Prop} (h : Rw K B O L tr F) (hz : ∀ O' ds, F O' ds → ds.length ≤ 100000) {σ : L2.St} {H : Hp} (s : Sat K B O L σ H) (Q : VK) (q : ∀ O' ds r H2, F O' ds → Same H H2 → Sat K B (O' ++ [(r, .lst ds)]) L σ H2 → Q (.ref r) H2) : tLst tr σ H Q :=
  h σ H s _ fun O' ds vs H2 hF e2 s2 r2 => ⟨by rw [r2.length, sizeLine_eq]; exact Nat.le_trans (hz _ _ hF) (by decide), fun r hr => q O' ds r _ hF (e2.trans (Same.new hr)) (s2.addOwn (Same.new hr) hr ⟨vs, upd_same, r2.same (Same.new hr)⟩)⟩
/-- x = [.., ..] -/
theorem s_asgRow {i : Nat} {tr : TA} {F : Own → List Dt → Prop} (h : Rw K B O L tr F) (hz : ∀ O' ds, F O' ds → ds.length ≤ 100000) (k : ∀ O' ds r, F O' ds → Nx K B (O' ++ [(r, .lst ds)]) (L.set i (some (.adr r))) D.nx) : Nx K B O L (tAsg (tLst tr) (gName i) D) := fun σ H s =>
  rw_lst h hz s _ fun O' ds r H2 hF e2 s2 => k O' ds r hF _ H2 (s2.set (.adr r))
/-- for x in [.., ..] -/
theorem s_forRow {tr : TA} {F : Own → List Dt → Prop} (h : Rw K B O L tr F) (hz : ∀ O' ds, F O' ds → ds.length ≤ 100000) (k : ∀ O' ds r, F O' ds → Nx K B (O' ++ [(r, .lst ds)]) L (tFor (iList K (tC (.ref r))) g tu D)) : Nx K B O L (tFor (iList K (tLst tr)) g tu D) := fun σ H s => by
  unfold tFor iList
  exact rw_lst h hz s _ fun O' ds r H2 hF e2 s2 => k O' ds r hF σ H2 s2
/-- x = [.., ..][i] -/
theorem s_asgRowIx {i : Nat} {k : Int} {tr : TA} {F : Own → List Dt → Prop} (h : Rw K B O L tr F) (hz : ∀ O' ds, F O' ds → ds.length ≤ 100000) (hb : ∀ O' ds r, F O' ds → Ev K B (O' ++ [(r, .lst ds)]) L tb (.dat (.int k))) (hk : ∀ O' ds, F O' ds → ∃ d, atI ds k = some d)
    (n : ∀ O' ds d, F O' ds → atI ds k = some d → Nx K B O' (L.set i (some d)) D.nx) : Nx K B O L (tAsg (tOp (rIxL K) (tLst tr) tb) (gName i) D) := fun σ H s => by
  unfold tAsg tOp
  refine rw_lst h hz s _ fun O' ds r H2 hF e2 s2 => ?_
  obtain ⟨d, hd⟩ := hk O' ds hF
  refine ev_ixL (ev_adr (a := r)) (Ls.own (j := O'.length) (ds := ds) (by simp)) (hb O' ds r hF) hd σ H2 s2 _ fun v H3 e3 r3 => ?_
  exact n O' ds d hF hd _ H3 ((Sat.drop (s2.same e3)).set r3)
/-! what an expression gives, told by any word of it -/
def EvM (K : Fg) (B : Hp) (O : Own) (L : Sl) (te : TE) (p : Hp → V → Prop) : Prop := ∀ σ H, Sat K B O L σ H → ∀ Q : VK, (∀ v H2, Same H H2 → p H2 v → Q v H2) → te σ H Q
theorem s_asgM {i : Nat} {p : Hp → V → Prop} (h : EvM K B [] L te p) (hp : ∀ H v, p H v → ∃ a, v = .ref a) (k : ∀ B' a, Same B B' → p B' (.ref a) → Nx K B' [] (L.set i (some (.adr a))) D.nx) : Nx K B [] L (tAsg te (gName i) D) := fun σ H s =>
  h σ H s _ fun v H1 e1 r1 => by
    obtain ⟨a, rfl⟩ := hp _ _ r1
    have s1 := (s.same e1).set (i := i) (.adr a)
    exact k H1 a (s.ex.trans e1) r1 _ H1 ⟨.refl H1, fun p hp => absurd hp (by simp), by simp, s1.len, s1.loc⟩
theorem s_forM {p : Hp → V → Prop} (h : EvM K B [] L te p) (hp : ∀ H v, p H v → ∃ a, v = .ref a) (k : ∀ B' a, Same B B' → p B' (.ref a) → Nx K B' [] L (tFor (iList K (tC (.ref a))) g tu D)) : Nx K B [] L (tFor (iList K te) g tu D) := fun σ H s =>
  h σ H s _ fun v H1 e1 r1 => by
    obtain ⟨a, rfl⟩ := hp _ _ r1
    exact k H1 a (s.ex.trans e1) r1 σ H1 ⟨.refl H1, fun p hp => absurd hp (by simp), by simp, s.len, (s.same e1).loc⟩
/-- a list of lists -/
def LL (K : Fg) (dss : List (List Dt)) (H : Hp) (v : V) : Prop := ∃ a ps, v = .ref a ∧ LsR K H (.ref a) (ps.map Dt.adr) ∧ LsLs K H ps dss
theorem LL.ref {dss : List (List Dt)} (H : Hp) (v : V) : LL K dss H v → ∃ a, v = .ref a := fun ⟨a, _, h, _⟩ => ⟨a, h⟩
theorem LsLs.same {H H' : Hp} (e : Same H H') : ∀ {ps : List Addr} {dss : List (List Dt)}, LsLs K H ps dss → LsLs K H' ps dss
  | _, _, .nil => .nil
  | _, _, .cons r t => .cons (r.same e) (LsLs.same e t)
theorem LsLs.snoc {H : Hp} {p : Addr} {ds : List Dt} (r : LsR K H (.ref p) ds) : ∀ {ps : List Addr} {dss : List (List Dt)}, LsLs K H ps dss → LsLs K H (ps ++ [p]) (dss ++ [ds])
  | _, _, .nil => .cons r .nil
  | _, _, .cons q t => .cons q (LsLs.snoc r t)
theorem LsLs.get {H : Hp} {k : Nat} {ds : List Dt} : ∀ {i : Nat} {ps : List Addr} {dss : List (List Dt)}, LsLs K H ps dss → dss[i]? = some ds → ∃ p, ps[i]? = some p ∧ LsR K H (.ref p) ds
  | _, _, _, .nil, e => by simp at e
  | 0, _, _, .cons r _, e => by simp at e; subst e; exact ⟨_, rfl, r⟩
  | i + 1, _, _, .cons _ t, e => by
    obtain ⟨p, h1, h2⟩ := LsLs.get (k := k) (i := i) t (by simpa using e)
    exact ⟨p, by simpa using h1, h2⟩
theorem LsLs.len {H : Hp} : ∀ {ps : List Addr} {dss : List (List Dt)}, LsLs K H ps dss → ps.length = dss.length
  | _, _, .nil => rfl
  | _, _, .cons _ t => congrArg (· + 1) (LsLs.len t)
/-- what the new list of lists bears at a turn -/
structure LlW (K : Fg) (H0 : Hp) (Dl : Addr) (dss : List (List Dt)) (H : Hp) : Prop where
  new : H0 Dl = none
  ex : Same H0 H
  lst : ∃ ps, H Dl = some (.lst (ps.map V.ref)) ∧ LsLs K H ps dss ∧ ∀ p, p ∈ ps → p ≠ Dl
theorem LsR.other {H : Hp} {p b : Addr} {u : HO} {ds : List Dt} (n : p ≠ b) (m : Mut (H b)) (h : LsR K H (.ref p) ds) : LsR K (upd H b u) (.ref p) ds := by
  obtain ⟨a, vs, hv, h1, h2⟩ := h
  cases hv
  refine ⟨p, vs, rfl, ?_, h2.keep (.mut m)⟩
  rcases h1 with (h1 | ⟨o, h1⟩) | h1
  · exact .inl (.inl ((upd_ne n).trans h1))
  · exact .inl (.inr ⟨o, (upd_ne n).trans h1⟩)
  · exact .inr h1
theorem LsLs.other {H : Hp} {b : Addr} {u : HO} (m : Mut (H b)) : ∀ {ps : List Addr} {dss : List (List Dt)}, (∀ p, p ∈ ps → p ≠ b) → LsLs K H ps dss → LsLs K (upd H b u) ps dss
  | _, _, _, .nil => .nil
  | _, _, n, .cons r t => .cons (r.other (n _ List.mem_cons_self) m) (LsLs.other m (fun p hp => n p (List.mem_cons_of_mem _ hp)) t)
theorem TpA.of_adrs {H : Hp} : ∀ ps : List Addr, TpA K H (ps.map V.ref) (ps.map Dt.adr)
  | [] => .nil
  | p :: ps => .cons (.adr p) (TpA.of_adrs ps)
/-- [a new list for x in range(n)] -/
theorem ev_lcLL {n : Nat} {f : Nat → List Dt} {j : Nat} {tr : TA} (h : EvD K B O L tr [.int n]) (hn : n ≤ 100000) (he : ∀ y, y < n → Ev K B O (L.set j (some (.int (y : Nat)))) te (.new (.lst (f y)))) :
    EvM K B O L (tLc (iRng1 tr) (gName j) tYes te [j]) (LL K ((List.range n).map f)) := fun σ H s Q q =>
  h σ H s _ fun vs H1 e1 r1 => by
    have s1 := s.same e1
    have r2 := r1.dats
    cases r2 with
    | cons r t =>
      cases t
      cases r
      refine ⟨(n : Int), rfl, by omega, by omega, fun Dl hD => lc_range (lo := 0) (n := (n : Int).toNat) (fun i H => LlW K H1 Dl ((List.range i).map f) H) ⟨hD, Same.new hD, [], upd_same, .nil, fun p hp => absurd hp (by simp)⟩ (fun i H' hi w => ?_) fun H' w => ?_⟩
      · have hi' : i < n := by simpa using hi
        have e0 : (0 : Int) + (i : Int) = (i : Int) := Int.zero_add _
        show gName j (.int ((0 : Int) + (i : Int))) _ _ _
        rw [e0]
        have sj := (s1.same w.ex).wiped (j := j) (.int (i : Int))
        refine ⟨wipe1 σ j _, ?_⟩
        show te _ H' _
        refine he i hi' _ H' sj _ fun u H4 e4 ⟨p, hu, hp, vs4, r4, r5⟩ => ?_
        subst hu
        obtain ⟨ps, w1, w2, w3⟩ := w.lst
        have hl : ps.length = i := by rw [w2.len]; simp
        have m : Mut (H4 Dl) := by rw [e4 _ _ w1]; trivial
        have hpd : p ≠ Dl := by
          rintro rfl
          rw [hp] at w1
          cases w1
        refine ⟨ps.map V.ref, e4 _ _ w1, by rw [List.length_map, sizeLine_eq]; omega, w.new, fun b o z => ?_, ps ++ [p], ?_, ?_, fun x hx => ?_⟩
        · rw [upd_ne (ne_of_none z w.new)]
          exact e4 _ _ (w.ex b o z)
        · rw [List.map_append]
          exact upd_same
        · rw [List.range_succ, List.map_append]
          refine LsLs.snoc (ds := f i) (LsR.other hpd m ⟨p, vs4, rfl, .of r4, r5⟩) (LsLs.other m w3 (w2.same e4))
        · rcases List.mem_append.mp hx with hx | hx
          · exact w3 x hx
          · rw [List.mem_singleton.mp hx]
            exact hpd
      · have en : (n : Int).toNat = n := by simp
        rw [en] at w
        obtain ⟨ps, w1, w2, w3⟩ := w.lst
        exact q _ H' (e1.trans w.ex) ⟨Dl, ps, rfl, ⟨Dl, _, rfl, .of w1, TpA.of_adrs ps⟩, w2⟩
/-! ### a promise told by any word -/
def RtM (K : Fg) (B : Hp) (R : VK) (p : Hp → V → Prop) : Prop := ∀ v H2, Same B H2 → p H2 v → R v H2
theorem RtM.ground {B B' : Hp} {R : VK} {p : Hp → V → Prop} (e : Same B B') (h : RtM K B R p) : RtM K B' R p := fun v H2 e2 r2 => h v H2 (e.trans e2) r2
def SpM (K : Fg) {α : Type} (as : α → List As) (pre : α → Prop) (res : α → Hp → V → Prop) : Sp := fun vs H Q _ => ∃ x, pre x ∧ AsA K H vs (as x) ∧ RtM K H Q (res x)
theorem ev_callM {α : Type} {as : α → List As} {pre : α → Prop} {res : α → Hp → V → Prop} {tr : TA} {rs : List Rs} (x : α) (h : EvA K B O L tr rs) (hp : pre x) (ha : AsAll K B O rs (as x)) : EvM K B O L (tCall (SpM K as pre res) [] E tr) (res x) := fun σ H s Q q =>
  h σ H s _ fun vs H1 e1 r1 => by
    show SpM K as pre res (vs ++ []) H1 Q E
    rw [List.append_nil]
    exact ⟨x, hp, ha.run s e1 r1, fun v H2 e2 r2 => q v H2 (e1.trans e2) r2⟩
theorem s_retM {a : Addr} {p : Hp → V → Prop} (h : Ev K B O L te (.dat (.adr a))) (hp : ∀ H', Same B H' → p H' (.ref a)) (k : RtM K B D.rt p) : Nx K B O L (tRet te D) := fun σ H s =>
  h σ H s _ fun v H1 e1 r1 => by
    cases r1
    exact k _ H1 (s.ex.trans e1) (hp H1 (s.ex.trans e1))
/-! ### try: a call, except C as e -/
/-- a call in the try block -/
theorem ev_callS {α : Type} {as : α → List As} {pre : α → Prop} {out : α → Option Addr} {res : α → Rs} {ES : L2.St → XK} {tr : TA} {rs : List Rs} (x : α) (h : EvA K B O L tr rs) (hp : pre x) (ho : out x = none) (ha : AsAll K B O rs (as x)) : Ev K B O L (tCallS (SpE K as pre out res) ES tr) (res x) := fun σ H s Q q =>
  h σ H s _ fun vs H1 e1 r1 => ⟨x, hp, ha.run s e1 r1, fun _ v H2 e2 r2 => q v H2 (e1.trans e2) (r2.back e1), fun C z => by rw [ho] at z; cases z⟩
theorem Sat.unset {i : Nat} {σ : L2.St} {H : Hp} (s : Sat K B O L σ H) : Sat K B O (L.set i none) (σ.set i none) H := by
  refine ⟨s.ex, s.own, s.nd, by simp [s.len], fun j e hj => ?_⟩
  by_cases hji : i = j
  · subst hji
    by_cases hl : i < L.length
    · rw [List.getElem?_set_self hl] at hj
      cases hj
    · rw [List.getElem?_eq_none (by simpa using hl)] at hj
      cases hj
  · rw [List.getElem?_set_ne hji] at hj ⊢
    exact s.loc j e hj
theorem s_unset {i : Nat} {P : L2.St → Hp → Prop} (h : Nx K B O (L.set i none) P) : Nx K B O L fun σ H => P (σ.set i none) H := fun σ H s => h _ H s.unset
/-- the exception of the class C comes, and the suite takes it -/
theorem s_caught {α : Type} {as : α → List As} {pre : α → Prop} {out : α → Option Addr} {res : α → Rs} {tr : TA} {rs : List Rs} {C : Addr} {c : Value} {i : Nat} {ts : Addr → Value → Option Addr → TS} {Wout : WX} (x : α) (h : EvA K B O L tr rs) (hp : pre x) (ho : out x = some C) (ha : AsAll K B O rs (as x)) (hc : PySem.W.exmOne K (.ref C) c = some true)
    (k : ∀ aE, Nx K B O (L.set i (some (.adr aE))) (ts aE (.ref C) none { nx := fun σ' H' => D.nx (σ'.set i none) H', rt := D.rt, bk := fun σ' H' => D.bk (σ'.set i none) H', ct := fun σ' H' => D.ct (σ'.set i none) H' })) :
    Nx K B O L (tDrop (tCallS (SpE K as pre out res) (WE (wAs K c i ts Wout D)) tr) D) := fun σ H s =>
  h σ H s _ fun vs H1 e1 r1 => ⟨x, hp, ha.run s e1 r1, fun z => (nomatch ho.symm.trans z), fun C' z H' e => by
    rw [ho] at z
    cases z
    exact ⟨true, hc, fun _ aE _ => k aE _ H' (((s.same e1).same e).set (.adr aE)), fun z => nomatch z⟩⟩
/-- isinstance(e, c), e what the suite holds -/
def rIsX (K : Fg) (cls : Value) (d : Option Addr) (a : Addr) : List V → Hp → VK → Prop := fun xs H Q => ∃ D c cv b, cls = .ref D ∧ d = none ∧ L2.ExcC K D ∧ xs = [.ref a, c] ∧ (∀ u, RelV c u → u = cv) ∧ PySem.W.kitOne K (.ref D) cv = some b ∧ Q (.bl b) H
theorem call_isX {X : Cx} {a : Addr} {cls : Value} {d : Option Addr} {oe : Obj} {pn : List (Addr × Obj)} (hz : Zc cls d oe) (hf : ∃ vs, oe.data = .fields vs) : CallR (X.suite a ((a, oe) :: pn)) (.builtin "isinstance") (rIsX X.K cls d a) := by
  intro pins s σ H xs us Q I r h
  obtain ⟨D, c, cv, b, rfl, rfl, hC, hx, hcv, e, q⟩ := h
  exact call_isE hC hz hf pins s σ H xs us Q I r ⟨c, cv, b, hx, hcv, e, q⟩
theorem ev_isX {D a : Addr} {c : V} {cv : Value} {b : Bool} (h : Ev K B O L te (.dat (.adr a))) (hc : ExcC K D) (hv : ∀ u, RelV c u → u = cv) (e : PySem.W.kitOne K (.ref D) cv = some b) : Ev K B O L (tCB (rIsX K (.ref D) none a) (tCons te (tCons (tC c) tNil))) (.dat (.bl b)) := fun σ H s Q q =>
  h σ H s _ fun v H1 e1 r1 => by
    cases r1
    exact ⟨D, c, cv, b, rfl, rfl, hc, rfl, hv, e, q _ H1 e1 (.bl b)⟩
theorem kit_ref {D C : Addr} {b : Bool} (hc : PySem.W.isClsIn K C = true) (ht : PySem.W.typeIn K (.ref C) = some (.type "type")) (e : PySem.W.subIn K (.ref D) (.ref C) = some b) (h1 : PySem.W.subIn K (.ref C) (.ref C) = some true) : PySem.W.kitOne K (.ref D) (.ref C) = some b := by
  unfold PySem.W.kitOne
  split
  · rename_i z
    have z' : D = C := Value.ref.inj (beq_iff_eq.mp z)
    subst z'
    exact h1.symm.trans e
  · show (if ((PySem.W.clsIn K C).isSome && PySem.W.typeIn K (.ref C) == some (.type "type")) = true then PySem.W.subIn K (.ref D) (.ref C) else none) = some b
    rw [if_pos]
    · exact e
    · rw [ht]
      have : (PySem.W.clsIn K C).isSome = true := by
        simpa [PySem.W.isClsIn] using hc
      rw [this]
      rfl
theorem kit_val {D : Addr} {b : Bool} (e : PySem.W.subIn K (.ref D) (.type "ValueError") = some b) : PySem.W.kitOne K (.ref D) (.type "ValueError") = some b := by
  unfold PySem.W.kitOne
  rw [if_neg (show ¬ (Value.ref D == Value.type "ValueError") = true from fun z => nomatch (beq_iff_eq.mp z : Value.ref D = Value.type "ValueError"))]
  show (if PySem.W.kitMeta "ValueError" = true then PySem.W.subIn K (.ref D) (.type "ValueError") else none) = some b
  rw [if_pos (by decide +kernel)]
  exact e
end
end GT

/-! ### try: .. except C1: raise ..; except C2: raise .. -/
namespace TryX
open PySem PySem.Spec PyProof.Rows L2 L2H HotX
/-- for each clause: the class that it names, and what its suite asks -/
abbrev Wsh := List (Value × (Addr → Value → Option Addr → Hp → Prop))
/-- how an exception meets the clauses: it goes by all of them, or, where bare holds (it has no context), it is taken by one -/
inductive Meet (K : PySem.W.Frag) (E : XK) (bare : Prop) (cls : Value) (d : Option Addr) (H : Hp) : Wsh → Prop
  | out (w : E cls d H) : Meet K E bare cls d H []
  | hit {c : Value} {ws : Addr → Value → Option Addr → Hp → Prop} {r : Wsh} (n : bare) (t : PySem.W.exmOne K cls c = some true) (w : ∀ a, H a = none → ws a cls d H) : Meet K E bare cls d H ((c, ws) :: r)
  | miss {c : Value} {ws : Addr → Value → Option Addr → Hp → Prop} {r : Wsh} (t : PySem.W.exmOne K cls c = some false) (w : Meet K E bare cls d H r) : Meet K E bare cls d H ((c, ws) :: r)
/-- the wish of a try's body -/
def meets (K : PySem.W.Frag) (E : XK) (bare : Prop) (l : Wsh) : XK := fun cls d H => Meet K E bare cls d H l
abbrev wME (K : PySem.W.Frag) (E : XK) : Wsh → XK := meets K E True
abbrev wPE (K : PySem.W.Frag) (E : XK) : Wsh → XK := meets K E False
/-- the suites of a list of clauses, each in the context of a handled exception -/
inductive HdsX (X : Cx) (E : XK) : List ExceptHandler → Wsh → Prop
  | nil : HdsX X E [] []
  | cons {x : Str} {c : Value} {ws : Addr → Value → Option Addr → Hp → Prop} {ts : Addr → Value → Option Addr → TS} {st : Stmt} {sts : List Stmt} {p1 p2 : Pos} {hds : List ExceptHandler} {l : Wsh} (hc : Names X x c)
      (suite : ∀ (e : Addr) (o : Obj) (cls : Value) (d : Option Addr) (pn : List (Addr × Obj)), L2N.Zn cls d o → (∃ vs, o.data = .fields vs) → L2.Takes (suiteX X e ((e, o) :: pn)) (fun cls d _ H => E cls d H) → HotC (suiteX X e ((e, o) :: pn)) → PSs (suiteX X e ((e, o) :: pn)) (st :: sts) (ts e cls d))
      (enough : ∀ e cls d D σ H, ws e cls d H → ts e cls d D σ H) (more : HdsX X E hds l) : HdsX X E (.ExceptHandler (some (.Name x p1)) none (st :: sts) p2 :: hds) ((c, ws) :: l)
/-- an exception e that has landed in the frame of X: s is the state, s0 the one without it -/
structure Down (X : Cx) (pins : List (Addr × Obj)) (G : Heap) (e : Addr) (Z : Obj → Prop) (σ : L2.St) (H : Hp) (s0 s : Shared) : Prop where
  inv : Inv X pins σ H s0
  low : ∀ b o, s0.heap.get? b = some o → b ∉ frs X.stack → G.get? b = some o
  up : s0.heap.UpToSlots s.heap
  fly : HandSPX.FlyingZ G (X.env :: X.outer) e Z s.heap
  free : H e = none
  os : s.os = s0.os
  bare : AllBare s.gens
section
variable {X : Cx} {E : XK} {pins : List (Addr × Obj)} {G : Heap} {e : Addr} {Z : Obj → Prop} {σ : L2.St} {H : Hp} {s0 s : Shared} {cls : Value} {d : Option Addr} {D : Ends}
theorem Down.again (x : Down X pins G e Z σ H s0 s) {h : Heap} (f : HandSPX.FlyingZ G (X.env :: X.outer) e Z h) (u : s.heap.UpToSlots h) : Down X pins G e Z σ H s0 { s with heap := h } :=
  ⟨x.inv, x.low, x.up.trans u, f, x.free, x.os, x.bare⟩
/-- the exception's object, and the frame around the suite -/
theorem Down.obj (x : Down X pins G e Z σ H s0 s) (own : X.env.frame = some X.env.locals) : ∃ o vs, s.heap.get? e = some o ∧ Z o ∧ o.data = .fields vs ∧ Inv (X.suite e ((e, o) :: (X.pn ++ pins))) [] σ H s := by
  obtain ⟨o, vs, k1, k2, k3⟩ := x.fly.there
  have out : e ∉ frs (X.env :: X.outer) := fun m => by
    obtain ⟨_, o2, k4, k5⟩ := x.fly.2.2.1.mem m
    cases k4.symm.trans k1
    exact k5 vs k3
  have J : Inv X pins σ H s := Inv.landed x.inv x.low x.fly.1 x.up x.os x.bare
  exact ⟨o, vs, k1, k2, k3, J.suite k1 k3 x.free (fun z => out (List.mem_filterMap.mpr ⟨_, List.mem_cons_self, z ▸ own⟩)) fun m => out (by
    obtain ⟨f, k6, k7⟩ := List.mem_filterMap.mp m
    exact List.mem_filterMap.mpr ⟨f, .tail _ k6, k7⟩)⟩
/-- by all clauses, and out -/
theorem Down.out (x : Down X pins G e Z σ H s0 s) (stk : X.stack = X.env :: X.outer) (own : X.env.frame = some X.env.locals) (zc : ∀ o, Z o → Zc cls d o) (tk : L2.Takes X fun cls d _ H => E cls d H) (w : E cls d H) :
    wpAny (model X.prog X.w) X.A (handleBy (.ref e) X.env []) (SP X pins D) X.xe s := by
  have f := flyingZ_imp zc x.fly
  have go : wpAny (model X.prog X.w) X.A (setFlight (.ref e) X.env.frame) (fun _ t => wpAny (model X.prog X.w) X.A (throw (.ref e) : Sem Flow) (SP X pins D) X.xe t) X.xe s := own.symm ▸ HandSPX.setFlight_upZ f fun h held u => wpAny_throw (tk _ _ ⟨e, G, s0, pins, σ, H, cls, d, rfl, x.inv, x.low, x.up.trans u, .inr (.inr (stk.symm ▸ held)), x.free, x.os, x.bare, w⟩)
  obtain ⟨_, _, _, o, vs, T, _, _, k1, _, k2, k3, _⟩ := id f
  refine wpAny_handleBy_nil ?_
  unfold PySem.passOn
  refine wpAny_bind (wpAny_field k1 k2 k3 ?_)
  rw [if_neg (c := (Value.ref T == Value.none) = true) (by simp)]
  first | exact wpAny_bind go | exact wpAny_bind (wpAny_pure (wpAny_bind go))
/-- behind a suite: its context is left -/
theorem left (ok : X.Ok) {o : Obj} {f : Flow} {t : Shared} (h : SP (suiteX X e ((e, o) :: (X.pn ++ pins))) [] D f t) : SP X pins D f t := by
  cases f with
  | ret u => exact let ⟨v, σ', H', I, r, q⟩ := h; ⟨v, σ', H', unsuiteX I ok, r, q⟩
  | next => exact let ⟨σ', H', I, q⟩ := h; ⟨σ', H', unsuiteX I ok, q⟩
  | brk => exact let ⟨σ', H', I, q⟩ := h; ⟨σ', H', unsuiteX I ok, q⟩
  | cont => exact let ⟨σ', H', I, q⟩ := h; ⟨σ', H', unsuiteX I ok, q⟩
/-- the landed exception before the clauses -/
theorem Down.meet {bare : Prop} (ok : X.Ok) (stk : X.stack = X.env :: X.outer) (own : X.env.frame = some X.env.locals) (zc : ∀ o, Z o → Zc cls d o) (zn : bare → ∀ o, Z o → L2N.Zn cls d o) (tk : L2.Takes X fun cls d _ H => E cls d H)
    (lets : ∀ hd : Option Value, PassesOwnAt (model X.prog X.w) (X.A.mark hd) X.A X.env X.xe) {hds : List ExceptHandler} {l : Wsh} (hh : HdsX X E hds l) : ∀ {s : Shared}, Down X pins G e Z σ H s0 s → Meet X.K E bare cls d H l → wpAny (model X.prog X.w) X.A (handleBy (.ref e) X.env hds) (SP X pins D) X.xe s := by
  induction hh with
  | nil =>
    intro s x m
    cases m with
    | out w => exact x.out stk own zc tk w
  | @cons y c ws ts st sts p1 p2 hds l hc suite enough more ih =>
    intro s x m
    obtain ⟨o, vs, k1, k2, k3, J⟩ := x.obj own
    have looks : PySem.W.Looks (model X.prog X.w) s.heap (typeOf (.ref e)) cls := fun A Q F t keeps q => wpAny_typeOf_ref (keeps e o k1) ((zc o k2).1.symm ▸ q)
    have kin : X.K.In s.heap := J.kIn
    have name : ∀ {Q F : Value → Shared → Prop}, Q c s → F = F → wpAny (model X.prog X.w) (X.A.mark (some (.ref e))) (eval (.Name y p1) X.env) Q F s := fun {Q F} q _ => by
      rcases hc with ⟨g1, g2, g3 | ⟨g3, g4, g5⟩⟩
      · exact ld_glob (X := X.suite e ((e, o) :: (X.pn ++ pins))) J g1 g3 q g2
      · exact ld_blt (X := X.suite e ((e, o) :: (X.pn ++ pins))) J g1 g3 g4 q g5 g2
    refine wpAny_handleBy_cons (codeAny_handlers_test (name ?_ rfl)) fun z => nomatch z
    cases m with
    | miss t w => exact (PySem.W.exm_one (M := model X.prog X.w) kin looks t).here (ih x w)
    | hit n t w =>
      refine (PySem.W.exm_one (M := model X.prog X.w) kin looks t).here (codeAny_handlers_suite (HandSPX.lands_againZ x.fly fun h f u => ?_))
      have x2 := x.again f u
      obtain ⟨o2, vs2, l1, l2, l3, J2⟩ := x2.obj own
      have zn2 := zn n o2 l2
      have tk2 : L2.Takes (suiteX X e ((e, o2) :: (X.pn ++ pins))) (fun cls d _ H => E cls d H) := fun v t ⟨b, G', t0, pn, σ', H', cls', d', q1, q2, q3⟩ => tk v t ⟨b, G', t0, pins, σ', H', cls', d', q1, unsuiteX q2 ok, q3⟩
      exact wpAny_mono ((suite e o2 cls d (X.pn ++ pins) zn2 ⟨vs2, l3⟩ tk2 ⟨(e, o2), ⟨rfl, vs2, l3, zn2.2.2 vs2 l3⟩, List.mem_cons_self⟩).run [] _ σ H D (suiteX_of J2) (enough _ _ _ _ _ _ (w e x.free))) (fun f t q => left ok q) fun v t q => lets _ v t q
end
section
variable {X : Cx} {E : XK} {body : List Stmt} {h₀ : ExceptHandler} {hds : List ExceptHandler} {l : Wsh} {pos : Pos} {tb : TS}
theorem pi_listK {K : PySem.W.Frag} {tg l : Expr} {tl : TE} (e : X.K = K) (h : PE X l tl) : PI X tg l (iList K tl) := e ▸ pi_list h
theorem ps_try_manyE (stk : X.stack = X.env :: X.outer) (own : X.env.frame = some X.env.locals) (lets : ∀ hd : Option Value, PassesOwnAt (model X.prog X.w) (X.A.mark hd) X.A X.env X.xe) (tk : L2.Takes X (fun cls d _ H => E cls d H))
    (hb : ∀ (pn : List (Addr × Obj)) (xe : Value → Shared → Prop), L2N.Takes (X.tr pn xe) (fun cls d _ H => wME X.K E l cls d H) → L2.Takes (X.tr pn xe) (fun cls d _ H => wPE X.K E l cls d H) → PassesOwn (model X.prog X.w) X.A X.env xe → PSs (X.tr pn xe) body tb)
    (hh : HdsX X E (h₀ :: hds) l) : PS X (.Try body (h₀ :: hds) [] [] pos) tb := by
  constructor
  intro pins s σ H D I w
  have ok := I.ok
  have fr : X.A.frames = some (X.env :: X.outer) := stk ▸ ok.frames
  -- what comes out of the body lands, and meets the clauses
  obtain ⟨xe, hxe⟩ : ∃ xe : Value → Shared → Prop, xe = fun v t => wpAny (model X.prog X.w) X.A (noteFrame v X.env) (fun _ t1 => wpAny (model X.prog X.w) X.A (setFlight v none) (fun _ t2 =>
    wpAny (model X.prog X.w) X.A (handleBy v X.env (h₀ :: hds)) (SP X pins D) X.xe t2) X.xe t1) X.xe t := ⟨_, rfl⟩
  have lands : ∀ {bare : Prop} {Z : Obj → Prop} {cls : Value} {d : Option Addr} {e : Addr} {G : Heap} {s0 t : Shared} {pn : List (Addr × Obj)} {σ' : L2.St} {H' : Hp}, PXN.Steady1 Z → (∀ o, Z o → Zc cls d o) → (bare → ∀ o, Z o → L2N.Zn cls d o) →
      Inv (X.tr (X.pn ++ pins) xe) pn σ' H' s0 → (∀ b o, s0.heap.get? b = some o → b ∉ frs X.stack → G.get? b = some o) → s0.heap.UpToSlots t.heap → Sky G X.stack e Z X.env.locals t.heap → H' e = none → t.os = s0.os → AllBare t.gens → Meet X.K E bare cls d H' l → xe (.ref e) t := by
    intro bare Z cls d e G s0 t pn σ' H' st zc zn J low up sky free os gens m
    rw [hxe]
    rw [stk] at sky
    refine L2N.Sky.land st fr own sky fun h f u => ?_
    have x : Down X pins G e Z σ' H' s0 { t with heap := h } := ⟨J.ofTry ok, low, up.trans u, f, free, os, gens⟩
    exact x.meet ok stk own zc zn tk lets hh m
  have tn : L2N.Takes (X.tr (X.pn ++ pins) xe) (fun cls d _ H => wME X.K E l cls d H) := fun v t ⟨e, G, s0, pn, σ', H', cls, d, q, J, low, up, sky, free, os, gens, m⟩ => by
    rw [q]
    exact lands (bare := True) L2N.Zn.steady (fun _ z => z.zc) (fun _ _ z => z) J low up sky free os gens m
  have tc : L2.Takes (X.tr (X.pn ++ pins) xe) (fun cls d _ H => wPE X.K E l cls d H) := fun v t ⟨e, G, s0, pn, σ', H', cls, d, q, J, low, up, sky, free, os, gens, m⟩ => by
    rw [q]
    exact lands (bare := False) (PXN.steady_and PXN.steady_cls PXN.steady_dict) (fun _ z => z) (fun z => z.elim) J low up sky free os gens m
  have looks : PassesOwn (model X.prog X.w) X.A X.env xe := hxe ▸ PassesOwn.looking
  have run := (hb _ xe tn tc looks).run [] s σ H D (I.toTry xe) w
  refine wpAny_Try_except (wpAny_mono run (fun f t q => ?_) fun v t q => by rw [hxe] at q; exact q)
  cases f with
  | ret u => exact let ⟨v, σ', H', J, r, k⟩ := q; ⟨v, σ', H', J.ofTry ok, r, k⟩
  | next => exact let ⟨σ', H', J, k⟩ := q; wpAny_execs_nil ⟨σ', H', J.ofTry ok, k⟩
  | brk => exact let ⟨σ', H', J, k⟩ := q; ⟨σ', H', J.ofTry ok, k⟩
  | cont => exact let ⟨σ', H', J, k⟩ := q; ⟨σ', H', J.ofTry ok, k⟩
end
end TryX

/-! ### comprehensions over reversed(..), joined texts -/
namespace GT
open PySem PySem.Spec PyProof.Rows L2
section
variable {K : Fg} {B : Hp} {O : Own} {L : Sl} {te ta tb tx : TE} {t u : TT} {D : Ends} {tu tw : TS} {g : TG} {E : XK}
/-- [y for y in reversed(ys)] -/
theorem ev_lcRev {α : Type} {enc : α → Dt} {ys : List α} {j : Nat} {tl : TE} (h : Ev K B O L tl (.new (.lst (ys.map enc)))) (hz : ys.length ≤ 10000) (hj : j < L.length) :
    Ev K B O L (tLc (iRev K (tCons tl tNil)) (gName j) tYes (tVar j) [j]) (.new (.lst (ys.reverse.map enc))) := fun σ H s Q q =>
  h σ H s _ fun v H1 e1 ⟨p, hv, hn, vs, hp, h3⟩ => by
    subst hv
    have s1 := s.same e1
    have el : vs.length = ys.length := by rw [h3.length]; simp
    have there : ∀ {H'}, Same H1 H' → SqL K H' p vs := fun e => e.seq (.of hp)
    refine ⟨p, vs, rfl, there (.refl _), fun Dl hD => ⟨fun i m H => m + i = vs.length ∧ LcW K H1 Dl ((ys.reverse.take i).map enc) H, ⟨vs.length, rfl, hD, Same.new hD, [], upd_same, .nil⟩, fun i m H' ⟨hm, w⟩ => ?_⟩⟩
    cases m with
    | zero =>
      refine .inl ⟨by show vs.length ≤ i; omega, ?_⟩
      rw [show i = ys.reverse.length by rw [List.length_reverse]; omega, List.take_length] at w
      obtain ⟨ws, h5, h6⟩ := w.lst
      exact q _ H' (e1.trans w.ex) ⟨Dl, rfl, e1.free hD, ws, h5, h6⟩
    | succ m =>
      have hi : i < vs.length := by omega
      refine .inr ⟨⟨hi, vs, vs[vs.length - 1 - i]'(by omega), there w.ex, List.getElem?_eq_getElem (by omega)⟩, fun H => LcW K H1 Dl ((ys.reverse.take (i + 1)).map enc) H, fun H2 w2 => ⟨m, by omega, by omega, w2⟩, fun x H2 hx => ?_⟩
      obtain ⟨e2, hx⟩ := hx
      subst e2
      obtain ⟨d, hd, rd⟩ := h3.getV (hx vs (there w.ex))
      rw [List.getElem?_map, el, ← List.getElem?_reverse (by omega)] at hd
      cases hy : ys.reverse[i]? with
      | none => rw [hy] at hd; cases hd
      | some y =>
        rw [hy] at hd
        cases hd
        have sj := (s1.same w.ex).wiped (j := j) (rd.same w.ex)
        refine ⟨wipe1 σ j _, ?_⟩
        rw [show ∀ (σ : L2.St) (H : Hp) (Q : Bool → Hp → Prop), tYes σ H Q = Q true H from fun _ _ _ => rfl, if_pos rfl]
        refine ev_var (K := K) (B := B) (O := O) (L := L.set j (some (enc y))) (i := j) (d := enc y) (by simp [hj]) _ _ sj _ fun u H4 e4 r4 => ?_
        obtain ⟨acc, a1, a2, a3⟩ := w.add e4 r4 (by rw [List.length_map, List.length_take, List.length_reverse]; omega)
        refine ⟨acc, a1, a2, ?_⟩
        rw [List.take_add_one, hy, List.map_append]
        exact a3
/-- a result told by any word, handed back -/
theorem s_retW {d : Dt} {p : Hp → V → Prop} (h : Ev K B O L te (.dat d)) (hp : ∀ σ H v, Sat K B O L σ H → Tp K H v d → p H v) (k : RtM K B D.rt p) : Nx K B O L (tRet te D) := fun σ H s =>
  h σ H s _ fun v H1 e1 r1 => k _ H1 (s.ex.trans e1) (hp σ H1 v (s.same e1) r1)
theorem RtM.dat {R : VK} {p : Hp → V → Prop} {d : Dt} (k : RtM K B R p) (h : ∀ H v, Tp K H v d → p H v) : Rt K B R (.dat d) := fun v H2 e r => k v H2 e (h H2 v r)
/-- x = .., told by a word from which the slot's datum comes; only the ground is known behind it -/
theorem s_asgMD {i : Nat} {ι : Type} {p : Hp → V → Prop} {d : ι → Dt} {F : ι → Hp → Prop} (h : EvM K B [] L te p) (hp : ∀ H v, p H v → ∃ x, Tp K H v (d x) ∧ F x H) (k : ∀ B' x, Same B B' → F x B' → Nx K B' [] (L.set i (some (d x))) D.nx) : Nx K B [] L (tAsg te (gName i) D) := fun σ H s =>
  h σ H s _ fun v H1 e1 r1 => by
    obtain ⟨x, r2, f⟩ := hp _ _ r1
    have s1 := (s.same e1).set (i := i) r2
    exact k H1 x (s.ex.trans e1) f _ H1 ⟨.refl H1, fun p hp => absurd hp (by simp), by simp, s1.len, s1.loc⟩
theorem TpA.strs_of {H : Hp} : ∀ {vs : List V} {ws : List (List Nat)}, TpA K H vs (ws.map fun y => Dt.str (SX.S y)) → vs = (ws.map SX.S).map V.str
  | _, [], h => by cases h; rfl
  | _, y :: ws, h => by
    cases h with
    | cons r t =>
      cases r
      rw [TpA.strs_of t]
      rfl
theorem sum_lens {m : Nat} : ∀ {ws : List (List Nat)}, (∀ y, y ∈ ws → y.length ≤ m) → (ws.map (·.length)).sum ≤ ws.length * m
  | [], _ => by simp
  | y :: ws, hw => by
    rw [List.map_cons, List.sum_cons, List.length_cons, Nat.succ_mul]
    have h1 := hw y List.mem_cons_self
    have h2 := sum_lens (ws := ws) fun z hz => hw z (List.mem_cons_of_mem _ hz)
    omega
/-- sep.join(..) -/
theorem ev_joinS {a : List Nat} {ws : List (List Nat)} {r : Rs} {m : Nat} (ha : Ev K B O L ta (.dat (.str (SX.S a)))) (hb : Ev K B O L tb r) (hl : Ls K B O r (ws.map fun y => Dt.str (SX.S y))) (hw : ∀ y, y ∈ ws → y.length ≤ m) (hz : ws.length * m + ws.length * a.length ≤ 100000) :
    Ev K B O L (tM1 (fun x xs H Q => ∃ a p, ∃ ys : List Str, x = V.str a ∧ xs = [V.ref p] ∧ (SqL K H p (ys.map V.str) ∨ SqT K H p (ys.map V.str)) ∧ (ys.map (·.length)).sum + ys.length * a.length ≤ 16777216 ∧ Q (V.str (Txt.join a ys)) H) ta tb) (.dat (.str (SX.S (TL.joinL a ws)))) := fun σ H s Q q =>
  ha σ H s _ fun x H1 e1 r1 => by
    cases r1
    refine ⟨⟨_, rfl⟩, hb σ H1 (s.same e1) _ fun y H2 e2 r2 => ?_⟩
    obtain ⟨p, vs, rfl, h1, h2⟩ := hl L σ H1 H2 y (s.same e1) e2 r2
    rw [TpA.strs_of h2] at h1
    refine ⟨SX.S a, p, ws.map SX.S, rfl, rfl, .inl h1, ?_, ?_⟩
    · rw [SX.lens, List.length_map, SX.S_len]
      have := sum_lens hw
      omega
    · rw [SX.join_S]
      exact q _ H2 (e1.trans e2) (.str _)
end
theorem joinL_len (m : Nat) : ∀ ws : List (List Nat), (∀ y, y ∈ ws → y.length ≤ m) → (TL.joinL [32] ws).length ≤ ws.length * (m + 1)
  | [], _ => Nat.zero_le _
  | [p], h => by
    show p.length ≤ 1 * (m + 1)
    have := h p (by simp)
    omega
  | p :: q :: r, h => by
    show (p ++ ([32] ++ TL.joinL [32] (q :: r))).length ≤ (r.length + 1 + 1) * (m + 1)
    have h1 := h p (by simp)
    have h2 := joinL_len m (q :: r) fun y hy => h y (List.mem_cons_of_mem _ hy)
    rw [List.length_append, List.length_append, Nat.succ_mul]
    rw [List.length_cons] at h2
    simp
    omega
end GT

/-! ### sorted(t), t a tuple of numbers -/
namespace SortT
open PySem PySem.Spec PyProof.Rows L2
section
variable {P : Program} {w : World} {A : Around} {E : Value → Shared → Prop} {s : Shared}
theorem gather {p : Addr} {us : List Value} {Q : List Value → Shared → Prop} (ht : IsTup s.heap p us.toArray) (hz : us.length ≤ sizeLine)
    (h : ∀ h' : Heap, (∀ b o, s.heap.get? b = some o → h'.get? b = some o) → Q us { s with heap := h' }) : wpAny (model P w) A (collect (.ref p)) Q E s := by
  obtain ⟨o, ho, hc, n, hd⟩ := id ht
  have hp : (s.heap.push (seqObj "list" #[] 0)).get? p = some o := Heap.get?_push_of_some _ ho
  have hnew : (s.heap.push (seqObj "list" #[] 0)).get? s.heap.objs.size = some (seqObj "list" #[] 0) := Heap.get?_push_size _ rfl
  have tt : (Value.type "tuple" == Value.type "tuple") = true := rfl
  unfold collect
  refine wpAny_bind (wpAny_runValue (codeAny_builtin PyProof.Rows.entry_proto_collect' ?_))
  show wpAny _ _ (do again (.builtin "list.__iadd__" ⟨[← newList [], .ref p], []⟩)) _ _ s
  refine wpAny_bind (wpAny_newList (wpAny_pure ⟨Code.quiet_builtin _ (by decide +kernel), codeAny_builtin PyProof.Rows.entry_list_iadd' ?_⟩))
  show wpAny _ _ (Builtin.List.listExtendWith (.ref s.heap.objs.size) (.ref p) (.ref s.heap.objs.size)) _ _ { s with heap := s.heap.push (seqObj "list" #[] 0) }
  unfold Builtin.List.listExtendWith
  refine wpAny_bind (wpAny_typeOf (T := "tuple") ⟨o, hp, hc⟩ ?_)
  rw [if_pos (by rw [tt, Bool.or_true])]
  refine wpAny_bind (PyProof.Rows.listItems_at hp hd (wpAny_bind (PyProof.Rows.listItems_at (xs := #[]) (n := 0) hnew rfl ?_)))
  rw [if_neg (by simp)]
  refine wpAny_bind (listUpdate_at (xs := #[]) (n := 0) hnew rfl (wpAny_pure ?_) (Nat.zero_le _) (by show (#[] ++ us.toArray).size ≤ sizeLine + 1; simp only [Array.size_append, List.size_toArray, List.length_nil]; omega))
  refine wpAny_bind (wpAny_load (get?_update_seq hnew _) ?_)
  have e : ((#[] : Array Value) ++ us.toArray).toList = us := by simp
  show wpAny (model P w) A (pure ((#[] : Array Value) ++ us.toArray).toList) Q E _
  rw [e]
  refine wpAny_pure (h _ fun b u eb => ?_)
  rw [Heap.get?_update_ne _ _ _ _ (Nat.ne_of_lt (Heap.lt_size eb))]
  exact Heap.get?_push_of_some _ eb
end
/-- sorted(t), t a tuple of numbers -/
def rSortTI (K : PySem.W.Frag) : List V → Hp → VK → Prop := fun vs H Q => ∃ (a : Addr) (ns : List Int), vs = [V.ref a] ∧ SqT K H a (ns.map V.int) ∧ ∀ (ms : List Int) (p : Addr), ms.Perm ns → ms.Pairwise (· ≤ ·) → H p = none → Q (.ref p) (upd H p (.lst (ms.map V.int)))
theorem cr_sortTI {X : Cx} : CallR X (.builtin "sorted") (rSortTI X.K) := by
  intro pins s σ H vs us Q I r h
  obtain ⟨a, ns, rfl, ht, q⟩ := h
  obtain ⟨its, rv, tl, hz⟩ := I.tuple ht
  rw [Vals.ref1 r]
  have hi := rv.ints
  have hzi : its.length ≤ sizeLine := by rw [← rv.length]; exact hz
  refine Calls.call_function_entry PyProof.Rows.kind_sorted PyProof.Rows.plain_sorted PyProof.Rows.entry_sorted (PyProof.Rows.args_sorted1 _) ?_
  unfold Builtin.«sorted»
  refine wpAny_bind (m := checkCount "sorted" 1 1 _) (wpAny_pure ?_)
  refine wpAny_bind (gather tl hzi fun h' hk => ?_)
  have I1 : Inv X pins σ H { s with heap := h' } := I.kept (t' := s.toks) hk
  refine wpAny_bind (wpAny_newList ?_ hzi)
  have hoL : (h'.push (seqObj "list" its.toArray 0)).get? h'.objs.size = some (seqObj "list" its.toArray 0) := Heap.get?_push_size _ rfl
  show wpAny _ _ _ _ _ { s with heap := h'.push (seqObj "list" its.toArray 0) }
  refine wpAny_bind (wpAny_holding (wpAny_call_entry PyProof.Rows.slot_list_sort ⟨_, hoL, rfl⟩ PyProof.Rows.entry_list_sort
    (SrtO.list_sort_ord (s := { s with heap := h'.push (seqObj "list" its.toArray 0) }) SrtO.swo_int hoL hzi (fun h2 => SrtO.ints_sortable hi h2) fun out h1 h2 => ⟨_, rfl, ?_⟩) (PyProof.Rows.args_list_sort _)))
  obtain ⟨k1, k2, k3⟩ := SrtO.ints_out hi h1 h2
  obtain ⟨e', he'⟩ := PyProof.Rows.sortedHeap_at (vs := its) (out := out.toArray) hoL
  have hl : ((out.map SrtO.iv).map V.int).length ≤ sizeLine := by
    rw [List.length_map, k2.length_eq]
    simpa using hz
  refine wpAny_pure ⟨_, rfl, .ref h'.objs.size, upd H h'.objs.size (.lst ((out.map SrtO.iv).map V.int)), I1.laid (t' := s.toks) (fun b u e => ?_) (Nat.le_refl _)
    (show ObjOk X.prog X.w _ _ _ (.lst ((out.map SrtO.iv).map V.int)) from ⟨hl, out, e', vals_of_ints k1, he'⟩), rfl, q _ _ k2 k3 (I1.hok.fresh (Nat.le_refl _))⟩
  have hb : b < h'.objs.size := Heap.lt_size e
  rw [PyProof.Rows.sortedHeap_old (Nat.ne_of_lt hb) (by rw [PyProof.Rows.size_push']; exact Nat.lt_succ_of_lt hb)]
  exact Heap.get?_push_of_some _ e
/-- two numbers -/
def two (i j : Int) : List Int := if i ≤ j then [i, j] else [j, i]
theorem two_of {i j : Int} : ∀ {ks : List Int}, ks.Perm [i, j] → ks.Pairwise (· ≤ ·) → ks = two i j := by
  intro ks hp hs
  obtain ⟨x, y, rfl⟩ : ∃ x y, ks = [x, y] := by
    match ks, hp.length_eq with
    | [x, y], _ => exact ⟨x, y, rfl⟩
  have hxy : x ≤ y := by
    cases hs with
    | cons h _ => exact h y (by simp)
  unfold two
  have hx : x = i ∨ x = j := by simpa using hp.mem_iff.mp (List.mem_cons_self (a := x) (l := [y]))
  have hy : y = i ∨ y = j := by simpa using hp.mem_iff.mp (List.mem_cons_of_mem x (List.mem_cons_self (a := y) (l := [])))
  have hi : i = x ∨ i = y := by simpa using hp.mem_iff.mpr (List.mem_cons_self (a := i) (l := [j]))
  have hj : j = x ∨ j = y := by simpa using hp.mem_iff.mpr (List.mem_cons_of_mem i (List.mem_cons_self (a := j) (l := [])))
  split
  · have e1 : x = i := by omega
    have e2 : y = j := by omega
    rw [e1, e2]
  · have e1 : x = j := by omega
    have e2 : y = i := by omega
    rw [e1, e2]
end SortT
namespace GT
open PySem PySem.Spec PyProof.Rows L2
section
variable {K : Fg} {B : Hp} {O : Own} {L : Sl} {ta : TE}
theorem ev_sortTI {i j : Int} (h : Ev K B O L ta (.dat (.tup [.int i, .int j]))) : Ev K B O L (tCB (SortT.rSortTI K) (tCons ta tNil)) (.new (.lst ((SortT.two i j).map .int))) := fun σ H s Q q =>
  h σ H s _ fun v H1 e1 r1 => by
    obtain ⟨t, xs, rfl, h2, h3⟩ := tup_inv r1
    have e := h3.ints [i, j]
    subst e
    refine ⟨t, [i, j], rfl, h2, fun ms p hp hs hn => q _ _ (e1.trans (Same.new hn)) ⟨p, rfl, e1.free hn, _, upd_same, ?_⟩⟩
    rw [SortT.two_of hp hs]
    exact TpA.of_ints _
end
end GT

/-! ### texts that write crossings, plainly -/
namespace My
open PySem PySem.Spec PyProof.Rows L2 GT
theorem spl1_nil (c : Nat) (acc : List Nat) : TL.spl [c] 0 acc [] = [acc] := TL.spl_nil _ _ _
theorem spl1_hit (c : Nat) (acc r : List Nat) : TL.spl [c] 0 acc (c :: r) = acc :: TL.spl [c] 0 [] r := TL.spl_hit (by simp [TL.pre])
theorem spl1_miss {c d : Nat} (h : d ≠ c) (acc r : List Nat) : TL.spl [c] 0 acc (d :: r) = TL.spl [c] 0 (acc ++ [d]) r := TL.spl_miss (by simp [TL.pre, h])
theorem spl_ne (c : Nat) : ∀ (t acc : List Nat), ∃ w ws, TL.spl [c] 0 acc t = w :: ws
  | [], acc => ⟨acc, [], spl1_nil c acc⟩
  | d :: t, acc => by
    by_cases h : d = c
    · subst h
      exact ⟨_, _, spl1_hit d acc t⟩
    · rw [spl1_miss h]
      exact spl_ne c t _
theorem spl_len (c : Nat) : ∀ (t acc : List Nat), (TL.spl [c] 0 acc t).length ≤ t.length + 1
  | [], acc => by rw [spl1_nil]; simp
  | d :: t, acc => by
    by_cases h : d = c
    · subst h
      rw [spl1_hit, List.length_cons, List.length_cons]
      have := spl_len d t []
      omega
    · rw [spl1_miss h, List.length_cons]
      have := spl_len c t (acc ++ [d])
      omega
theorem spl_el (c : Nat) : ∀ (t acc w : List Nat), w ∈ TL.spl [c] 0 acc t → w.length ≤ acc.length + t.length
  | [], acc, w, h => by
    rw [spl1_nil] at h
    rw [List.mem_singleton.mp h]
    simp
  | d :: t, acc, w, h => by
    by_cases hd : d = c
    · subst hd
      rw [spl1_hit] at h
      rcases List.mem_cons.mp h with h | h
      · rw [h]
        omega
      · have := spl_el d t [] w h
        rw [List.length_cons]
        simp at this
        omega
    · rw [spl1_miss hd] at h
      have := spl_el c t (acc ++ [d]) w h
      rw [List.length_append] at this
      rw [List.length_cons]
      simp at this
      omega
theorem join_spl (c : Nat) : ∀ (t acc : List Nat), TL.joinL [c] (TL.spl [c] 0 acc t) = acc ++ t
  | [], acc => by rw [spl1_nil, List.append_nil]; rfl
  | d :: t, acc => by
    by_cases h : d = c
    · subst h
      rw [spl1_hit]
      have ih := join_spl d t []
      obtain ⟨w, ws, e⟩ := spl_ne d t []
      rw [e] at ih ⊢
      show acc ++ ([d] ++ TL.joinL [d] (w :: ws)) = _
      rw [ih]
      rfl
    · rw [spl1_miss h, join_spl c t (acc ++ [d]), List.append_assoc]
      rfl
/-- t writes the crossing of x.1 streams and the clashes x.2 -/
structure Wr (t : List Nat) (x : Nat × List (Int × Int)) : Prop where
  n1 : 1 ≤ x.1
  n6 : x.1 ≤ 6
  ok : ∀ p, p ∈ x.2 → 0 ≤ p.1 ∧ p.1 < p.2 ∧ p.2 < x.1
  srt : x.2 = srtU x.2
  eq : t = txtT x.1 x.2
theorem Wr.fig {t : List Nat} {x : Nat × List (Int × Int)} (h : Wr t x) : ∀ p, p ∈ x.2 → okF p := fun p hp => by
  have := h.ok p hp
  have := h.n6
  unfold okF
  omega
theorem Wr.split {t : List Nat} {x : Nat × List (Int × Int)} (h : Wr t x) : TL.spl [32] 0 [] t = [48 + x.1, 58] :: x.2.map pairT := by
  have := h.n6
  rw [h.eq, txtT_split (by omega) h.fig]
theorem pairT_inj {p q : Int × Int} (hp : okF p) (hq : okF q) (h : pairT p = pairT q) : p = q := by
  unfold pairT at h
  unfold okF at hp hq
  injection h with h1 h
  injection h with _ h
  injection h with h2 _
  exact Prod.ext (by omega) (by omega)
theorem pairsT_inj : ∀ {ps qs : List (Int × Int)}, (∀ p, p ∈ ps → okF p) → (∀ p, p ∈ qs → okF p) → ps.map pairT = qs.map pairT → ps = qs
  | [], [], _, _, _ => rfl
  | [], q :: qs, _, _, h => by cases h
  | p :: ps, [], _, _, h => by cases h
  | p :: ps, q :: qs, hp, hq, h => by
    rw [List.map_cons, List.map_cons] at h
    injection h with h1 h2
    rw [pairT_inj (hp p List.mem_cons_self) (hq q List.mem_cons_self) h1, pairsT_inj (fun r hr => hp r (List.mem_cons_of_mem _ hr)) (fun r hr => hq r (List.mem_cons_of_mem _ hr)) h2]
theorem Wr.inj {t : List Nat} {x y : Nat × List (Int × Int)} (h : Wr t x) (k : Wr t y) : x = y := by
  have e := h.split.symm.trans k.split
  injection e with e1 e2
  injection e1 with e1 _
  exact Prod.ext (by omega) (pairsT_inj h.fig k.fig e2)
open Classical in
/-- the crossing that a text writes -/
noncomputable def dueT (t : List Nat) : Option (Nat × List (Int × Int)) := if h : ∃ x, Wr t x then some h.choose else none
theorem dueT_some {t : List Nat} {x : Nat × List (Int × Int)} (h : dueT t = some x) : Wr t x := by
  unfold dueT at h
  split at h
  · rename_i z
    cases h
    exact z.choose_spec
  · cases h
theorem dueT_none {t : List Nat} (h : dueT t = none) (x : Nat × List (Int × Int)) : ¬ Wr t x := fun z => by
  unfold dueT at h
  split at h
  · cases h
  · rename_i k
    exact k ⟨x, z⟩
theorem dueT_eq {t : List Nat} {x : Nat × List (Int × Int)} (h : Wr t x) : dueT t = some x := by
  cases e : dueT t with
  | none => exact absurd h (dueT_none e x)
  | some y => rw [(dueT_some e).inj h]
/-- one figure -/
def numF (w : List Nat) : Option Nat := match w with
  | [c] => if 48 ≤ c ∧ c < 58 then some (c - 48) else none
  | _ => none
theorem numF_some {w : List Nat} {d : Nat} (h : numF w = some d) : w = [48 + d] ∧ d < 10 := by
  unfold numF at h
  split at h
  · rename_i c
    split at h
    · cases h
      constructor
      · congr 1
        omega
      · omega
    · cases h
  · cases h
theorem numF_of {d : Nat} (h : d < 10) : numF [48 + d] = some d := by
  show (if 48 ≤ 48 + d ∧ 48 + d < 58 then some (48 + d - 48) else none) = some d
  rw [if_pos (by omega)]
  congr 1
  omega
/-- two figures, a dash between them -/
def pairF (w : List Nat) : Option (Int × Int) := match TL.spl [45] 0 [] w with
  | [x, y] => match numF x, numF y with
    | some i, some j => some (i, j)
    | _, _ => none
  | _ => none
theorem pairF_two {w x y : List Nat} (h : TL.spl [45] 0 [] w = [x, y]) : pairF w = match numF x, numF y with
    | some i, some j => some ((i : Int), (j : Int))
    | _, _ => none := by
  unfold pairF
  rw [h]
theorem pairF_len {w : List Nat} (h : (TL.spl [45] 0 [] w).length ≠ 2) : pairF w = none := by
  unfold pairF
  split
  · rename_i x y e
    rw [e] at h
    exact absurd rfl h
  · rfl
theorem pairF_of {p : Int × Int} (h : okF p) : pairF (pairT p) = some p := by
  rw [pairF_two (pairT_split h)]
  unfold okF at h
  rw [numF_of (by omega), numF_of (by omega)]
  show some ((p.1.toNat : Int), (p.2.toNat : Int)) = some p
  congr 1
  exact Prod.ext (by show (p.1.toNat : Int) = p.1; omega) (by show (p.2.toNat : Int) = p.2; omega)
/-- words of a text of so many signs -/
theorem words_len {t w : List Nat} {ws : List (List Nat)} (h : TL.spl [32] 0 [] t = w :: ws) (hl : t.length ≤ 200) : w.length ≤ 200 ∧ ws.length ≤ 200 ∧ ∀ v, v ∈ ws → v.length ≤ 200 := by
  have h1 := spl_len 32 t []
  have h2 := spl_el 32 t []
  rw [h] at h1 h2
  rw [List.length_cons] at h1
  refine ⟨?_, by omega, fun v hv => ?_⟩
  · have := h2 w List.mem_cons_self
    simp at this
    omega
  · have := h2 v (List.mem_cons_of_mem _ hv)
    simp at this
    omega
/-- a text of such words -/
theorem words_txt {t : List Nat} {n : Nat} {ps : List (Int × Int)} (h : TL.spl [32] 0 [] t = [48 + n, 58] :: ps.map pairT) : t = txtT n ps := by
  have e := join_spl 32 t []
  rw [h, txtT_join] at e
  exact e.symm
end My

namespace My
open PySem PySem.Spec PyProof.Rows L2 GT
def topS (i : Nat) : Stmt := PySem.Challenge.pw_greenturns_k10_texts_read.main.body.getD i (.Pass ⟨0, 0, 0, 0⟩)
abbrev s_Crossing___init__ : Stmt := inClass (topS 10) 0
abbrev n_Crossing___init__ : List Str := ["self", "streams", "clashes", "one", "other"]
theorem sc_Crossing___init__ : FnScope n_Crossing___init__ ["self", "streams", "clashes"] (defScope s_Crossing___init__) := ⟨rfl, rfl, rfl, by decide +kernel, rfl, by decide +kernel, by decide +kernel⟩
abbrev s_Crossing_size : Stmt := inClass (topS 10) 1
abbrev n_Crossing_size : List Str := ["self"]
theorem sc_Crossing_size : FnScope n_Crossing_size ["self"] (defScope s_Crossing_size) := ⟨rfl, rfl, rfl, by decide +kernel, rfl, by decide +kernel, by decide +kernel⟩
abbrev s_Crossing_clashes : Stmt := inClass (topS 10) 7
abbrev n_Crossing_clashes : List Str := ["self"]
theorem sc_Crossing_clashes : FnScope n_Crossing_clashes ["self"] (defScope s_Crossing_clashes) := ⟨rfl, rfl, rfl, by decide +kernel, rfl, by decide +kernel, by decide +kernel⟩
abbrev s_shown : Stmt := topS 13
abbrev n_shown : List Str := ["crossing", "text", "pair"]
theorem sc_shown : FnScope n_shown ["crossing"] (defScope s_shown) := ⟨rfl, rfl, rfl, by decide +kernel, rfl, by decide +kernel, by decide +kernel⟩
abbrev s_number_of : Stmt := topS 14
abbrev n_number_of : List Str := ["word"]
theorem sc_number_of : FnScope n_number_of ["word"] (defScope s_number_of) := ⟨rfl, rfl, rfl, by decide +kernel, rfl, by decide +kernel, by decide +kernel⟩
abbrev s_pair_of : Stmt := topS 15
abbrev n_pair_of : List Str := ["word", "parts"]
theorem sc_pair_of : FnScope n_pair_of ["word"] (defScope s_pair_of) := ⟨rfl, rfl, rfl, by decide +kernel, rfl, by decide +kernel, by decide +kernel⟩
abbrev s_read : Stmt := topS 16
abbrev n_read : List Str := ["text", "words", "crossing", "word"]
theorem sc_read : FnScope n_read ["text"] (defScope s_read) := ⟨rfl, rfl, rfl, by decide +kernel, rfl, by decide +kernel, by decide +kernel⟩
abbrev s__law_cell_at : Stmt := topS 18
abbrev n__law_cell_at : List Str := ["script", "k"]
theorem sc__law_cell_at : FnScope n__law_cell_at ["script", "k"] (defScope s__law_cell_at) := ⟨rfl, rfl, rfl, by decide +kernel, rfl, by decide +kernel, by decide +kernel⟩
abbrev s__law_clashes : Stmt := topS 19
abbrev n__law_clashes : List Str := ["script", "start", "streams", "cell", "turned", "pairs", "a", "b", "more", "twice", "pair"]
theorem sc__law_clashes : FnScope n__law_clashes ["script", "start", "streams"] (defScope s__law_clashes) := ⟨rfl, rfl, rfl, by decide +kernel, rfl, by decide +kernel, by decide +kernel⟩
abbrev s__law_ring : Stmt := topS 20
abbrev n__law_ring : List Str := ["cell", "streams", "step", "first", "pairs", "k", "other"]
theorem sc__law_ring : FnScope n__law_ring ["cell", "streams"] (defScope s__law_ring) := ⟨rfl, rfl, rfl, by decide +kernel, rfl, by decide +kernel, by decide +kernel⟩
abbrev s__law_shown : Stmt := topS 21
abbrev n__law_shown : List Str := ["clashes", "streams", "text", "pair"]
theorem sc__law_shown : FnScope n__law_shown ["clashes", "streams"] (defScope s__law_shown) := ⟨rfl, rfl, rfl, by decide +kernel, rfl, by decide +kernel, by decide +kernel⟩
abbrev s__law_spoiled : Stmt := topS 22
abbrev n__law_spoiled : List Str := ["text", "way", "cell", "other", "signs", "sign", "at", "words", "spot", "word"]
theorem sc__law_spoiled : FnScope n__law_spoiled ["text", "way", "cell", "other"] (defScope s__law_spoiled) := ⟨rfl, rfl, rfl, by decide +kernel, rfl, by decide +kernel, by decide +kernel⟩
abbrev s__law_odd : Stmt := topS 23
abbrev n__law_odd : List Str := ["cell", "some"]
theorem sc__law_odd : FnScope n__law_odd ["cell"] (defScope s__law_odd) := ⟨rfl, rfl, rfl, by decide +kernel, rfl, by decide +kernel, by decide +kernel⟩
abbrev s__law_due : Stmt := topS 24
abbrev n__law_due : List Str := ["text", "words", "streams", "pairs", "word", "pair"]
theorem sc__law_due : FnScope n__law_due ["text"] (defScope s__law_due) := ⟨rfl, rfl, rfl, by decide +kernel, rfl, by decide +kernel, by decide +kernel⟩
abbrev s__law_told : Stmt := topS 25
abbrev n__law_told : List Str := ["text", "found", "flags", "e"]
theorem sc__law_told : FnScope n__law_told ["text"] (defScope s__law_told) := ⟨rfl, rfl, rfl, by decide +kernel, rfl, by decide +kernel, by decide +kernel⟩
abbrev s__law_right : Stmt := topS 26
abbrev n__law_right : List Str := ["text", "due", "found"]
theorem sc__law_right : FnScope n__law_right ["text", "due"] (defScope s__law_right) := ⟨rfl, rfl, rfl, by decide +kernel, rfl, by decide +kernel, by decide +kernel⟩
abbrev s_law : Stmt := topS 27
abbrev n_law : List Str := ["script", "streams", "way", "text", "due"]
theorem sc_law : FnScope n_law ["script"] (defScope s_law) := ⟨rfl, rfl, rfl, by decide +kernel, rfl, by decide +kernel, by decide +kernel⟩
structure Adr where
  c_TurnError : Addr
  c_BadSize : Addr
  c_BadClash : Addr
  c_NoStream : Addr
  c_BadWish : Addr
  c_BadNote : Addr
  c_Crossing : Addr
structure Txt (K : Fg) (mg : Str → Option Value) (a : Adr) : Prop where
  i_Crossing : Mi K a.c_Crossing "Crossing.__init__" s_Crossing___init__ ["self", "streams", "clashes"]
  m_Crossing_size : AtM K a.c_Crossing "size" "Crossing.size" s_Crossing_size ["self"]
  m_Crossing_clashes : AtM K a.c_Crossing "clashes" "Crossing.clashes" s_Crossing_clashes ["self"]
  f_shown : At K mg "shown" s_shown ["crossing"]
  f_number_of : At K mg "number_of" s_number_of ["word"]
  f_pair_of : At K mg "pair_of" s_pair_of ["word"]
  f_read : At K mg "read" s_read ["text"]
  f__law_cell_at : At K mg "_law_cell_at" s__law_cell_at ["script", "k"]
  f__law_clashes : At K mg "_law_clashes" s__law_clashes ["script", "start", "streams"]
  f__law_ring : At K mg "_law_ring" s__law_ring ["cell", "streams"]
  f__law_shown : At K mg "_law_shown" s__law_shown ["clashes", "streams"]
  f__law_spoiled : At K mg "_law_spoiled" s__law_spoiled ["text", "way", "cell", "other"]
  f__law_odd : At K mg "_law_odd" s__law_odd ["cell"]
  f__law_due : At K mg "_law_due" s__law_due ["text"]
  f__law_told : At K mg "_law_told" s__law_told ["text"]
  f__law_right : At K mg "_law_right" s__law_right ["text", "due"]
  f_law : At K mg "law" s_law ["script"]
  g_Crossing : mg "Crossing" = some (.ref a.c_Crossing)
  cls_Crossing : Cls K a.c_Crossing
  isi_Crossing : ∀ (H : Hp) (b dx : Addr) (fs : List (Str × V)), H b = some (.ins a.c_Crossing dx fs) → TyOf K H (.ref b) (.ref a.c_Crossing)
  n_Crossing_many : NoAttr K a.c_Crossing "many"
  n_Crossing_pairs : NoAttr K a.c_Crossing "pairs"
  x_TurnError : ExC K mg "TurnError" a.c_TurnError
  x_BadSize : ExC K mg "BadSize" a.c_BadSize
  x_BadClash : ExC K mg "BadClash" a.c_BadClash
  x_NoStream : ExC K mg "NoStream" a.c_NoStream
  x_BadWish : ExC K mg "BadWish" a.c_BadWish
  x_BadNote : ExC K mg "BadNote" a.c_BadNote
  g_TurnError : mg "TurnError" = some (.ref a.c_TurnError)
  g_BadSize : mg "BadSize" = some (.ref a.c_BadSize)
  g_BadClash : mg "BadClash" = some (.ref a.c_BadClash)
  g_NoStream : mg "NoStream" = some (.ref a.c_NoStream)
  g_BadWish : mg "BadWish" = some (.ref a.c_BadWish)
  g_BadNote : mg "BadNote" = some (.ref a.c_BadNote)
  e_BadSize : L2.ExcC K a.c_BadSize
  s_BadSize_TurnError : PySem.W.subIn K (.ref a.c_BadSize) (.ref a.c_TurnError) = some true
  s_BadSize_BadSize : PySem.W.subIn K (.ref a.c_BadSize) (.ref a.c_BadSize) = some true
  s_BadSize_BadClash : PySem.W.subIn K (.ref a.c_BadSize) (.ref a.c_BadClash) = some false
  s_BadSize_NoStream : PySem.W.subIn K (.ref a.c_BadSize) (.ref a.c_NoStream) = some false
  s_BadSize_BadWish : PySem.W.subIn K (.ref a.c_BadSize) (.ref a.c_BadWish) = some false
  s_BadSize_BadNote : PySem.W.subIn K (.ref a.c_BadSize) (.ref a.c_BadNote) = some false
  v_BadSize : PySem.W.subIn K (.ref a.c_BadSize) (.type "ValueError") = some true
  e_BadClash : L2.ExcC K a.c_BadClash
  s_BadClash_TurnError : PySem.W.subIn K (.ref a.c_BadClash) (.ref a.c_TurnError) = some true
  s_BadClash_BadSize : PySem.W.subIn K (.ref a.c_BadClash) (.ref a.c_BadSize) = some false
  s_BadClash_BadClash : PySem.W.subIn K (.ref a.c_BadClash) (.ref a.c_BadClash) = some true
  s_BadClash_NoStream : PySem.W.subIn K (.ref a.c_BadClash) (.ref a.c_NoStream) = some false
  s_BadClash_BadWish : PySem.W.subIn K (.ref a.c_BadClash) (.ref a.c_BadWish) = some false
  s_BadClash_BadNote : PySem.W.subIn K (.ref a.c_BadClash) (.ref a.c_BadNote) = some false
  v_BadClash : PySem.W.subIn K (.ref a.c_BadClash) (.type "ValueError") = some true
  e_BadNote : L2.ExcC K a.c_BadNote
  s_BadNote_TurnError : PySem.W.subIn K (.ref a.c_BadNote) (.ref a.c_TurnError) = some true
  s_BadNote_BadSize : PySem.W.subIn K (.ref a.c_BadNote) (.ref a.c_BadSize) = some false
  s_BadNote_BadClash : PySem.W.subIn K (.ref a.c_BadNote) (.ref a.c_BadClash) = some false
  s_BadNote_NoStream : PySem.W.subIn K (.ref a.c_BadNote) (.ref a.c_NoStream) = some false
  s_BadNote_BadWish : PySem.W.subIn K (.ref a.c_BadNote) (.ref a.c_BadWish) = some false
  s_BadNote_BadNote : PySem.W.subIn K (.ref a.c_BadNote) (.ref a.c_BadNote) = some true
  v_BadNote : PySem.W.subIn K (.ref a.c_BadNote) (.type "ValueError") = some true
  hd_TurnError : PySem.W.hasDictIn K a.c_TurnError = true
  hd_BadSize : PySem.W.hasDictIn K a.c_BadSize = true
  hd_BadClash : PySem.W.hasDictIn K a.c_BadClash = true
  hd_BadNote : PySem.W.hasDictIn K a.c_BadNote = true
  s_TurnError_TurnError : PySem.W.subIn K (.ref a.c_TurnError) (.ref a.c_TurnError) = some true
  s_NoStream_NoStream : PySem.W.subIn K (.ref a.c_NoStream) (.ref a.c_NoStream) = some true
  s_BadWish_BadWish : PySem.W.subIn K (.ref a.c_BadWish) (.ref a.c_BadWish) = some true
  g_MOST : ∃ t, mg "MOST" = some (.int 6 t)
  g_FIGURES : ∃ t, mg "FIGURES" = some (.str "0123456789" t)
  z_ValueError : mg "ValueError" = none
  z_isinstance : mg "isinstance" = none
  z_len : mg "len" = none
  z_max : mg "max" = none
  z_min : mg "min" = none
  z_range : mg "range" = none
  z_reversed : mg "reversed" = none
  z_set : mg "set" = none
  z_sorted : mg "sorted" = none
  z_str : mg "str" = none
end My
/-! ### the walk's own short words -/
open PySem PySem.Spec PyProof.Rows L2 GT My
set_option hygiene false in
local macro_rules | `(tactic| walk_at "ty") => `(tactic| (intro _; first | exact Tp.int _ | exact Tp.bl _ | exact Tp.str _))
set_option hygiene false in
local macro_rules | `(tactic| walk_at "ev") => `(tactic| first
  | ((with_reducible apply ev_var); rfl)
  | (with_reducible exact ev_int)
  | ((with_reducible refine Ev.isD ev_int ?_); rfl)
  | (with_reducible exact ev_bl)
  | (with_reducible exact ev_str)
  | (with_reducible exact ev_non)
  | (with_reducible exact ev_adr)
  | ((with_reducible apply ev_rI0); (case' ha => walk_at "ev"); (case' hb => walk_at "ev"); (case hg => walk_at "ty"))
  | ((with_reducible apply ev_rI); (case' ha => walk_at "ev"); (case' hb => walk_at "ev"); (case hg => walk_at "ty"); (case' hc => (try walk_at "side")))
  | ((with_reducible apply ev_neg); walk_at "ev")
  | ((with_reducible apply ev_abs); walk_at "ev")
  | ((with_reducible apply ev_intB); walk_at "ev")
  | ((with_reducible apply ev_tup); (case' h => walk_at "ed"); (case hl => rfl))
  | ((with_reducible apply ev_lst); (case' h => walk_at "ed"); (case hl => rfl))
  | ((with_reducible apply ev_ixT); (case' ha => walk_at "ev"); (case' hb => walk_at "ev"); (case h => rfl))
  | ((with_reducible apply ev_notV); walk_at "ev")
  | ((with_reducible apply ev_ixL); (case' ha => walk_at "ev"); (case hl => walk_at "ls"); (case' hb => walk_at "ev"); (case' h => (try rfl)))
  | ((with_reducible apply ev_isi); (case' h => walk_at "ev"); (case ht => rfl); (case hb => first | exact k_tt | exact k_ii | exact k_ib | exact k_bb | exact k_ll | exact k_ss))
  | ((with_reducible apply ev_andV); (case' h1 => walk_at "ev"); (case' h2 => (intro _; walk_at "ev")))
  | ((with_reducible apply ev_orV); (case' h1 => walk_at "ev"); (case' h2 => (intro _; walk_at "ev")))
  | ((with_reducible apply ev_lenL); (case' h => walk_at "ev"); (case hl => walk_at "ls"))
  | ((with_reducible apply ev_lenT); walk_at "ev")
  | ((with_reducible apply ev_eqI); (case' ha => walk_at "ev"); (case' hb => walk_at "ev"))
  | ((with_reducible apply ev_neI); (case' ha => walk_at "ev"); (case' hb => walk_at "ev"))
  | walk_at "ev2")
local macro_rules | `(tactic| walk_at "ls") => `(tactic| first
  | (with_reducible exact Ls.new)
  | ((with_reducible apply Ls.base); assumption)
  | exact Ls.own (j := 0) rfl | exact Ls.own (j := 1) rfl | exact Ls.own (j := 2) rfl | exact Ls.own (j := 3) rfl | exact Ls.own (j := 4) rfl | exact Ls.own (j := 5) rfl | exact Ls.own (j := 6) rfl)
set_option hygiene false in
local macro_rules | `(tactic| walk_at "ed") => `(tactic| first
  | (with_reducible exact ed_nil)
  | ((with_reducible apply ed_cons); (case' h => walk_at "ev"); (case' hr => walk_at "ed")))
set_option hygiene false in
local macro_rules | `(tactic| walk_at "ea") => `(tactic| first
  | (with_reducible exact ea_nil)
  | ((with_reducible apply ea_cons); (case' h => walk_at "ev"); (case' hr => walk_at "ea")))
set_option hygiene false in
local macro_rules | `(tactic| walk_at "et") => `(tactic| first
  | ((with_reducible apply et_test); walk_at "ev")
  | ((with_reducible apply et_B); walk_at "ev")
  | ((with_reducible apply et_not); walk_at "et")
  | ((with_reducible apply et_or); (case' h1 => walk_at "et"); (case' h2 => (intro _; walk_at "et")))
  | ((with_reducible apply et_and); (case' h1 => walk_at "et"); (case' h2 => (intro _; walk_at "et")))
  | (with_reducible exact et_yes))
/-! statements that only store -/
set_option hygiene false in
local macro_rules | `(tactic| walk_at "go") => `(tactic| ((repeat' first
  | (with_reducible refine s_seq ?_)
  | (with_reducible refine s_end ?_)
  | ((with_reducible apply s_asg); (case' h => walk_at "ev"))); (try dsimp only)))
set_option hygiene false in
local macro_rules | `(tactic| walk_at "if") => `(tactic| ((try (with_reducible refine s_seq ?_)); (with_reducible apply s_if); (case' h => walk_at "et")))
set_option hygiene false in
local macro_rules | `(tactic| walk_at "ret") => `(tactic| ((with_reducible apply s_ret); (case' h => walk_at "ev")))
local macro_rules | `(tactic| walk_at "side") => `(tactic| first | assumption | exact dd_ne _ _ | exact dd_pos _ _ | ((with_reducible apply m_nn) <;> assumption) | ((with_reducible apply m_nd) <;> assumption) | ((with_reducible apply m_dn) <;> assumption) | ((with_reducible apply m_dd) <;> assumption) | ((with_reducible apply dd_lt) <;> assumption) | ((with_reducible apply dn_lt) <;> assumption) | ((with_reducible apply dn_ne) <;> assumption))
/-! calls -/
set_option hygiene false in
local macro_rules | `(tactic| walk_at "ev2") => `(tactic| ((with_reducible apply ev_lowest); (case' h1 => walk_at "ev"); (case' h2 => walk_at "ev"); (case' hb => (try walk_at "side")); (case' hz => (try walk_at "side"))))
set_option hygiene false in
local macro_rules | `(tactic| walk_at "ev2") => `(tactic| ((with_reducible apply ev_plus); (case' h1 => walk_at "ev"); (case' h2 => walk_at "ev"); (case' hp => (try walk_at "side")); (case' hq => (try walk_at "side"))))
set_option hygiene false in
local macro_rules | `(tactic| walk_at "ev2") => `(tactic| ((with_reducible apply ev_minus); (case' h1 => walk_at "ev"); (case' h2 => walk_at "ev"); (case' hp => (try walk_at "side")); (case' hq => (try walk_at "side"))))
set_option hygiene false in
local macro_rules | `(tactic| walk_at "ev2") => `(tactic| ((with_reducible apply ev_times); (case' h1 => walk_at "ev"); (case' h2 => walk_at "ev"); (case' hp => (try walk_at "side")); (case' hq => (try walk_at "side"))))
set_option hygiene false in
local macro_rules | `(tactic| walk_at "ev2") => `(tactic| ((with_reducible apply ev_less); (case' h1 => walk_at "ev"); (case' h2 => walk_at "ev"); (case' hp => (try walk_at "side")); (case' hq => (try walk_at "side"))))
set_option hygiene false in
local macro_rules | `(tactic| walk_at "ev2") => `(tactic| ((with_reducible apply ev_over); (case' h1 => walk_at "ev"); (case' h2 => walk_at "ev"); (case' hp => (try walk_at "side")); (case' hq => (try walk_at "side")); (case' h0 => (try walk_at "side"))))
set_option hygiene false in
local macro_rules | `(tactic| walk_at "ev2") => `(tactic| ((with_reducible apply ev_cell); (case' h1 => walk_at "ev"); (case hl => walk_at "ls"); (case' h2 => walk_at "ev"); (case' hk => (try omega)); (case' hn => (try assumption))))
set_option hygiene false in
local macro_rules | `(tactic| walk_at "ev2") => `(tactic| ((with_reducible apply ev_low1); (case' h1 => walk_at "ev"); (case' h2 => walk_at "ev"); (case' hb => (try walk_at "side")); (case' hz => (try walk_at "side"))))
set_option hygiene false in
local macro_rules | `(tactic| walk_at "ev2") => `(tactic| ((with_reducible apply ev_whole); walk_at "ev"))
set_option hygiene false in
local macro_rules | `(tactic| walk_at "ev2") => `(tactic| ((with_reducible apply ev_frac); (case' h1 => walk_at "ev"); (case' h2 => walk_at "ev")))
set_option hygiene false in
local macro_rules | `(tactic| walk_at "ev2") => `(tactic| ((with_reducible apply ev_drawn); (case' h1 => walk_at "ev"); (case hl => walk_at "ls"); (case' h2 => walk_at "ev"); (case' hk => (try omega)); (case' hn => (try assumption))))
set_option hygiene false in
local macro_rules | `(tactic| walk_at "ev2") => `(tactic| ((with_reducible apply ev_sum1); (case' h1 => walk_at "ev"); (case' h2 => walk_at "ev"); (case' hp => (try walk_at "side")); (case' hq => (try walk_at "side"))))
set_option hygiene false in
local macro_rules | `(tactic| walk_at "ev2") => `(tactic| ((with_reducible apply ev_less1); (case' h1 => walk_at "ev"); (case' h2 => walk_at "ev"); (case' hp => (try walk_at "side")); (case' hq => (try walk_at "side"))))
local macro_rules | `(tactic| walk_at "s") => `(tactic| ((try dsimp only); (try (with_reducible refine s_seq ?_))))

/-! ### sorted(..) by the frame -/
namespace My
open PySem PySem.Spec PyProof.Rows L2 GT
section
variable {K : Fg} {B : Hp} {O : Own} {L : Sl} {te ta tb tx td : TE}
theorem zip_of {H : Hp} : ∀ {vs : List V} {gs : List (List Int)}, TpA K H vs (gs.map dG) → ∃ zs : List (V × List Int), zs.map (·.1) = vs ∧ zs.map (·.2) = gs ∧ ∀ y, y ∈ zs → ∃ t, y.1 = V.ref t ∧ SqT K H t (y.2.map V.int)
  | [], [], _ => ⟨[], rfl, rfl, fun y hy => by cases hy⟩
  | [], _ :: _, h => by cases h
  | _ :: _, [], h => by cases h
  | v :: vs, g :: gs, h => by
    cases h with
    | cons r t =>
      obtain ⟨zs, h1, h2, h3⟩ := zip_of t
      refine ⟨(v, g) :: zs, by rw [List.map_cons, h1], by rw [List.map_cons, h2], fun y hy => ?_⟩
      rcases List.mem_cons.mp hy with e | hy
      · subst e
        cases r with
        | tup h4 h5 =>
          rename_i a xs
          have := h5.ints g
          subst this
          exact ⟨a, rfl, h4⟩
      · exact h3 y hy
theorem of_zip {H : Hp} : ∀ {zs : List (V × List Int)}, (∀ y, y ∈ zs → ∃ t, y.1 = V.ref t ∧ SqT K H t (y.2.map V.int)) → TpA K H (zs.map (·.1)) ((zs.map (·.2)).map dG)
  | [], _ => .nil
  | z :: zs, h => by
    obtain ⟨t, e, ht⟩ := h z List.mem_cons_self
    refine .cons ?_ (of_zip fun y hy => h y (List.mem_cons_of_mem _ hy))
    show Tp K H z.1 (dG z.2)
    rw [e]
    exact .tup ht (TpA.of_ints z.2)
theorem ev_sortG {r : Rs} {xs : List (List Int)} (h : Ev K B O L ta r) (hl : Ls K B O r (xs.map dG)) (h0 : ∃ ys, xs = [] :: ys) : Ev K B O L (tCB (rSortG K) (tCons ta tNil)) (.new (.lst ((srtG xs).map dG))) :=
  ev_cbL h hl fun σ H s a vs h2 h3 Q q => by
    obtain ⟨ys, e⟩ := h0
    obtain ⟨zs, z1, z2, z3⟩ := zip_of h3
    cases zs with
    | nil => rw [e] at z2; cases z2
    | cons z zs =>
      have ez : z.2 = [] := by
        rw [e, List.map_cons] at z2
        exact (List.cons.inj z2).1
      refine ⟨a, z, zs, rfl, by rw [z1]; exact h2, z3, ez, fun ws p hp hs hn => q _ _ (Same.new hn) ⟨p, rfl, hn, _, upd_same, ?_⟩⟩
      have e1 : ws.map (·.2) = srtG xs := by
        refine srt_of lexL_swo lexL_anti ?_ (List.pairwise_map.mpr hs)
        rw [← z2]
        exact hp.map _
      rw [← e1]
      exact (of_zip fun y hy => z3 y (hp.mem_iff.mp hy)).same (Same.new hn)
theorem of_pairs {H : Hp} : ∀ {ys : List V} {qs : List (Int × Int)}, Paired (fun y (q : Int × Int) => ∃ t, y = V.ref t ∧ H t = some (.tup [.int q.1, .int q.2])) ys qs → TpA K H ys (qs.map dPr)
  | _, _, .nil => .nil
  | _, _, .cons ⟨t, e, h⟩ r => by
    subst e
    exact .cons (.tup (.of h) (.cons (.int _) (.cons (.int _) .nil))) (of_pairs r)
theorem ev_sortD {d : Addr} {ps : List (Int × Int)} (h : Ev K B O L td (.dat (.adr d))) (hd : ∀ L σ H, Sat K B O L σ H → H d = some (.dT (kvsOf ps))) : Ev K B O L (tCB rSortD (tCons td tNil)) (.new (.lst ((srtP ps).map dPr))) := fun σ H s Q q =>
  h σ H s _ fun v H1 e1 r1 => by
    cases r1
    refine ⟨d, _, ps, rfl, .inl (hd L σ H1 (s.same e1)), kvs_keys ps, fun ys qs p hy hs hp hn => q _ _ (e1.trans (Same.new hn)) ⟨p, rfl, e1.free hn, _, upd_same, ?_⟩⟩
    have e : qs = srtP ps := srt_of lexB_swo lexB_anti hp hs
    rw [← e]
    exact (of_pairs hy).same (Same.new hn)
/-- sorted(xs) of numbers -/
theorem ev_sortI {r : Rs} {ns ms : List Int} (h : Ev K B O L ta r) (hl : Ls K B O r (ns.map .int)) (hm : ∀ ks : List Int, ks.Perm ns → ks.Pairwise (· ≤ ·) → ks = ms) : Ev K B O L (tCB (rSortedI K) (tCons ta tNil)) (.new (.lst (ms.map .int))) :=
  ev_cbL h hl fun σ H s a vs h2 h3 Q q => by
    have e := h3.ints ns
    subst e
    refine ⟨a, ns, rfl, h2, fun ks p hp hs hn => q _ _ (Same.new hn) ⟨p, rfl, hn, _, upd_same, ?_⟩⟩
    rw [hm ks hp hs]
    exact TpA.of_ints ms
/-- x in xs -/
theorem any_good {α : Type} [DecidableEq α] {n : Nat} {enc : α → Dt} (g : Good n enc) (x : α) : ∀ xs : List α, ((toPyA (xs.map enc)).any fun z => PyData.eqv z (toPy (enc x))) = decide (x ∈ xs)
  | [] => rfl
  | y :: xs => by
    rw [List.map_cons, toPyA, List.any_cons, any_good g x xs]
    have e : PyData.eqv (toPy (enc y)) (toPy (enc x)) = decide (y = x) := g.eq y x
    rw [e]
    by_cases h : x = y
    · subst h; simp
    · have h' : ¬ y = x := fun z => h z.symm
      simp [h, h']
theorem ev_inG {α : Type} [DecidableEq α] {n : Nat} {enc : α → Dt} (g : Good n enc) (hn : n ≤ 59) {x : α} {xs : List α} {r : Rs} (ha : Ev K B O L ta (.dat (enc x))) (hb : Ev K B O L tb r) (hl : Ls K B O r (xs.map enc)) : Ev K B O L (tOp (rInD K) ta tb) (.dat (.bl (decide (x ∈ xs)))) := by
  have h := ev_inDx ha hb hl (okD_good g (by omega) x) (okL_good g (by omega) xs)
  rw [any_good g] at h
  exact h
end
end My

/-! ### the laws' own reckoning -/
namespace My
open PySem PySem.Spec PyProof.Rows L2 GT
theorem divInt_eq_of {t b : Int} {q : Rat} (h : Rat.divInt t b = q) : dQ (Rat.divInt t b) = dQ q := by rw [h]
section
variable {P : Program} {w : World} {K : Fg} {mg : Str → Option Value} {base : Heap} {a : Adr}
def SpCell (K : Fg) : Sp := SpF K (fun x : List Int × Int => [.lst (x.1.map .int), .dat (.int x.2)]) (fun x => 0 ≤ x.2 ∧ x.1.length ≤ 63) (fun x => .dat (.int (cell x.1 x.2)))
theorem c__law_cell_at (T : Txt K mg a) : Cal P w K mg base CX0 1 "_law_cell_at" ["script", "k"] (SpCell K) := by
  refine cal_ok T.f__law_cell_at sc__law_cell_at (fun _ => rfl) fun f cdv A outer s B vs R E x hr hp ha hR => ?_
  obtain ⟨ns, k⟩ := x
  dsimp only at hp hR ha
  obtain ⟨hk, hn⟩ := hp
  refine ⟨_, (pss_cons (ps_if (pt_cmpR op_lt (pv 1) (pe_callB (r := fun xs H Q => ∃ p ys, xs = [V.ref p] ∧ (SqL K H p ys ∨ SqT K H p ys) ∧ Q (V.int ys.length) H) call_len_seq (by rfl) T.z_len (by decide +kernel) (pa_cons (pv 0) pa_nil)) (nomark _)) (pss_one (ps_ret (pe_ix (r := rIxL K) ix_list (pv 0) (pv 1) (fun _ _ => rfl)))) pss_nil)
  (pss_one (ps_ret pe_int))), ?_⟩
  try dsimp only [cxOf, Cx.nox, Cx.wish]
  cases ha with
  | cons h1 ha => cases ha with
  | cons h2 ha =>
  cases ha
  obtain ⟨l, xs, rfl, hl1, hl2⟩ := h1
  have hl : LsR K B (.ref l) (ns.map .int) := ⟨l, xs, rfl, hl1, hl2⟩
  refine body_at (K := K) [.adr l, .int k] (.cons (.adr l) (.cons h2 .nil)) (L := [some (.adr l), some (.int k)]) ?_
  walk_at "if"
  · intro hc
    have hc' : k < (ns.length : Int) := by
      have := of_decide_eq_true hc
      simpa using this
    refine s_ret (r := .dat (.int (cell ns k))) (ev_ixL (ev_var rfl) (Ls.base hl) (ev_var rfl) ?_) ?_
    · have h3 : k.toNat < ns.length := by omega
      unfold atI
      have h4 : ixN (ns.map Dt.int).length k = some k.toNat := by
        have := ixN_nat (n := (ns.map Dt.int).length) (j := k.toNat) (by simpa using h3)
        rwa [Int.toNat_of_nonneg hk] at this
      rw [h4]
      show (ns.map Dt.int)[k.toNat]? = _
      unfold cell
      rw [List.getElem?_map, List.getElem?_eq_getElem h3, List.getD_eq_getElem?_getD, List.getElem?_eq_getElem h3]
      rfl
    · exact hR
  · intro hc
    have hc' : ¬ k < (ns.length : Int) := by
      have := of_decide_eq_false hc
      simpa using this
    walk_at "go"
    refine s_ret (r := .dat (.int (cell ns k))) (ev_int.isD ?_) ?_
    · unfold cell
      rw [List.getD_eq_getElem?_getD, List.getElem?_eq_none (by omega)]
      rfl
    · exact hR
theorem ev_cell {B : Hp} {O : Own} {L : Sl} {ta tb : TE} {E : XK} {r : Rs} {ns : List Int} {k : Int} (h1 : Ev K B O L ta r) (hl : Ls K B O r (ns.map .int)) (h2 : Ev K B O L tb (.dat (.int k))) (hk : 0 ≤ k) (hn : ns.length ≤ 63) : Ev K B O L (tCall (SpCell K) [] E (tCons ta (tCons tb tNil))) (.dat (.int (cell ns k))) :=
  ev_call (ns, k) (ea_cons h1 (ea_cons h2 ea_nil)) ⟨hk, hn⟩ (.cons (.lst hl) (.cons .dat .nil))
end
end My

/-! ### greenturns/crossing.py -/
namespace My
open PySem PySem.Spec PyProof.Rows L2 GT
section
variable {P : Program} {w : World} {K : Fg} {mg : Str → Option Value} {base : Heap} {a : Adr}
/-- at b stands the crossing c -/
def CrAt (C : Addr) (H : Hp) (b : Addr) (c : Cr) : Prop := ∃ dx d, H b = some (.ins C dx [("many", .int c.n), ("pairs", .ref d)]) ∧ H d = some (.dT (kvsOf c.ps))
def crM (C : Addr) (c : Cr) : Mono where
  p := fun H b => CrAt C H b c
  up := fun H H' b e ⟨dx, d, h1, h2⟩ => ⟨dx, d, e _ _ h1, e _ _ h2⟩
  nl := fun H b ⟨dx, d, h1, h2⟩ => ⟨dx, d, by unfold noLst; rw [h1], by unfold noLst; rw [h2]⟩
abbrev asCr (C : Addr) (c : Cr) : As := .any fun H v => ∃ b, v = .ref b ∧ (crM C c).p H b
def SpNew (K : Fg) (C : Addr) : Sp := SpInit K C (fun x : Nat × List (Int × Int) => [.dat (.int x.1), .lst (x.2.map dPr)]) (fun x => 1 ≤ x.1 ∧ x.1 ≤ 6 ∧ x.2.length ≤ 1000 ∧ ∀ p, p ∈ x.2 → okP x.1 p) (fun x => crM C (crOf x.1 x.2))
theorem c_Crossing___init__ (T : Txt K mg a) : CalI P w K mg base CX0 1 a.c_Crossing ["self", "streams", "clashes"] (SpNew K a.c_Crossing) := by
  refine cali_ok T.i_Crossing sc_Crossing___init__ (fun _ => rfl) fun f cdv A outer s B H slf dx ws R E y hr hp h1 h2 h3 ha hR => ?_
  obtain ⟨n, cl⟩ := y
  dsimp only at hp ha hR
  obtain ⟨n1, n6, hlen, hok⟩ := hp
  refine ⟨_, (pss_cons (ps_if (PW.pt (pw_or (pt_cmpR op_lt (pv 1) pe_int (nomark _)) (pw_or1 (pt_cmpR op_gt (pv 1) (pe_globI (by rfl) T.g_MOST) (nomark _))))) (pss_one ps_never) pss_nil)
  (pss_cons (ps_fld (pv 0) (pv 1) rfl)
  (pss_cons (ps_fld (pv 0) pe_dnewT rfl)
  (pss_one (ps_for PassesOwn.never rfl (pi_list (pv 2)) (pg_tup (by rfl) (pgs_cons (pg_name (i := 3) sc_Crossing___init__.nd rfl (Or.inl rfl)) (pgs_cons (pg_name (i := 4) sc_Crossing___init__.nd rfl (Or.inl rfl)) pgs_nil)))
    (pss_cons (ps_if (PW.pt (pw_or (pt_cmpR op_lt (pv 3) pe_int (nomark _)) (pw_or (pt_cmpR op_ge (pv 3) (pv 1) (nomark _)) (pw_or (pt_cmpR op_lt (pv 4) pe_int (nomark _)) (pw_or (pt_cmpR op_ge (pv 4) (pv 1) (nomark _)) (pw_or1 (pt_cmpR op_eq (pv 3) (pv 4) (nomark _)))))))) (pss_one ps_never) pss_nil)
  (pss_one (ps_dput (hu_of hr) (pe_fldK K (by rfl) (pv 0) (by rfl)) (pe_tup (pa_cons (pe_callB (call_min2 rfl) (by rfl) T.z_min (by decide +kernel) (pa_cons (pv 3) (pa_cons (pv 4) pa_nil))) (pa_cons (pe_callB (call_max2 rfl) (by rfl) T.z_max (by decide +kernel) (pa_cons (pv 3) (pa_cons (pv 4) pa_nil))) pa_nil))) pe_bl rfl)))))))), ?_⟩
  try dsimp only [cxOf, Cx.nox, Cx.wish]
  cases ha with
  | cons k1 ha => cases ha with
  | cons k2 ha =>
  cases ha
  obtain ⟨l, xs, rfl, hl1, hl2⟩ := k2
  have hl : LsR K B (.ref l) (cl.map dPr) := ⟨l, xs, rfl, hl1, hl2⟩
  refine body_atO (K := K) (B := B) (O := [(slf, .ins a.c_Crossing dx [])]) [.adr slf, .int n, .adr l] (.cons (.adr slf) (.cons (Tp.same h2 k1) (.cons (.adr l) .nil))) h2 (fun p hp => by
    rw [List.mem_singleton.mp hp]
    exact ⟨h1, [], h3, .nil⟩) (by simp) (L := [some (.adr slf), some (.int n), some (.adr l), none, none]) ?_
  (walk_at "s"); refine s_if (b := decide ((n : Int) < 1) || decide ((n : Int) > 6)) (et_or (et_test ?_) fun _ => et_test ?_) (fun h => ?_) fun _ => s_end ?_
  · walk_at "ev"
  · walk_at "ev"
  · simp at h
    omega
  (walk_at "s"); refine s_fld (j := 0) (ev_var rfl) (ev_var rfl) rfl T.cls_Crossing T.n_Crossing_many (by show 0 < 1000; decide) ?_
  (walk_at "s"); refine s_fldRaw (j := 0) (ev_var rfl) rfl T.cls_Crossing T.n_Crossing_pairs (by show 1 < 1000; decide) fun d => ?_
  show Nx K B [(slf, .ins a.c_Crossing dx [("many", .int n), ("pairs", .adr d)]), (d, .raw (.dT (kvsOf [])))] _ _
  (walk_at "s"); refine s_for (enc := dPr) (ys := cl) (ev_var rfl) (fun p => [(slf, .ins a.c_Crossing dx [("many", .int n), ("pairs", .adr d)]), (d, .raw (.dT (kvsOf ((p.map norm).foldl addP []))))]) (fun p y => [some (.adr slf), some (.int n), some (.adr l), some (.int y.1), some (.int y.2)]) (fun p => [some (.adr slf), some (.int n), some (.adr l), none, none]) (fun _ => Ls.base hl) s_ok (fun p y => tg_tup2) (fun p y post e => ?_) ?_
  · have hy := hok y (e ▸ List.mem_append_right _ List.mem_cons_self)
    obtain ⟨i, j⟩ := y
    obtain ⟨y1, y2, y3, y4, y5⟩ := hy
    dsimp only at y1 y2 y3 y4 y5
    (walk_at "s"); refine s_if (b := decide (i < 0) || (decide (i ≥ (n : Int)) || (decide (j < 0) || (decide (j ≥ (n : Int)) || decide (i = j))))) (et_or (et_test ?_) fun _ => et_or (et_test ?_) fun _ => et_or (et_test ?_) fun _ => et_or (et_test ?_) fun _ => et_test ?_) (fun h => ?_) fun _ => s_end ?_
    · walk_at "ev"
    · walk_at "ev"
    · walk_at "ev"
    · walk_at "ev"
    · walk_at "ev"
    · simp at h
      omega
    · have el : (((p ++ [(i, j)]).map norm).foldl addP []) = addP ((p.map norm).foldl addP []) (norm (i, j)) := by
        rw [List.map_append, List.foldl_append]
        rfl
      rw [el]
      have hz : ((p.map norm).foldl addP []).length < 100000 := by
        have h1 := foldl_addP_len (p.map norm) []
        rw [List.length_map] at h1
        rw [e, List.length_append] at hlen
        simp at h1
        omega
      refine s_dput (n := 1) (d := d) ev_bl (ev_fldO (j := 0) (ev_var rfl) rfl T.cls_Crossing T.n_Crossing_pairs rfl) rfl (i := (norm (i, j)).1) (j := (norm (i, j)).2) (ed_cons (ev_min2 (ev_var rfl) (ev_var rfl)) (ed_cons (ev_max2 (ev_var rfl) (ev_var rfl)) ed_nil)) hz ?_
      exact s_okW (.same (.same (.same (.none (.none .nil)))))
  · intro σ H' s
    refine hR H' s.ex ?_
    obtain ⟨gs, g1, g2⟩ := (s.at (j := 0) rfl).2
    obtain ⟨g3, _⟩ := (s.at (j := 1) rfl).2
    cases g2 with
    | cons r1 t => cases t with
      | cons r2 t2 =>
        cases t2
        cases r1
        cases r2
        exact ⟨dx, d, g1, g3⟩
/-- what a made crossing gives -/
theorem ev_new {B : Hp} {O : Own} {L : Sl} {ta tb : TE} {E : XK} {r : Rs} {n : Nat} {cl : List (Int × Int)} {C : Addr} (h1 : Ev K B O L ta (.dat (.int n))) (h2 : Ev K B O L tb r) (hl : Ls K B O r (cl.map dPr)) (hp : 1 ≤ n ∧ n ≤ 6 ∧ cl.length ≤ 1000 ∧ ∀ p, p ∈ cl → okP n p) :
    Ev K B O L (tMake C (SpNew K C) [] E (tCons ta (tCons tb tNil))) (.obj (crM C (crOf n cl))) :=
  ev_make (n, cl) (ea_cons h1 (ea_cons h2 ea_nil)) hp (.cons .dat (.cons (.lst hl) .nil))
theorem CrAt.many {C : Addr} {H : Hp} {b : Addr} {c : Cr} (h : CrAt C H b c) : ∃ dx gs d, H b = some (.ins C dx gs) ∧ gs.lookup ("many" : Str) = some (V.int c.n) ∧ gs.lookup ("pairs" : Str) = some (V.ref d) ∧ H d = some (.dT (kvsOf c.ps)) ∧ ∀ m : Str, (m == ("many" : Str)) = false → (m == ("pairs" : Str)) = false → gs.lookup m = none := by
  obtain ⟨dx, d, h1, h2⟩ := h
  refine ⟨dx, _, d, h1, rfl, rfl, h2, fun m e1 e2 => ?_⟩
  rw [List.lookup_cons, e1]
  show List.lookup m [(("pairs" : Str), V.ref d)] = none
  rw [List.lookup_cons, e2]
  rfl
/-- a method of a crossing that stands in the ground -/
theorem ev_crM {B : Hp} {O : Own} {L : Sl} {ta : TE} {α : Type} {as : α → List As} {pre : α → Prop} {res : α → Rs} {C : Addr} {m : Str} {tr : TA} {rs : List Rs} {E : XK} {b : Addr} {c : Cr} (x : α) (hc : CrAt C B b c) (ho : Ev K B O L ta (.dat (.adr b))) (h : EvA K B O L tr rs) (hp : pre x) (ha : AsAll K B O rs (as x).tail)
    (hx : as x = asCr C c :: (as x).tail := by rfl) (m1 : (m == ("many" : Str)) = false := by decide) (m2 : (m == ("pairs" : Str)) = false := by decide) : Ev K B O L (tMeth C m (SpF K as pre res) [] E ta tr) (res x) := by
  obtain ⟨dx, gs, d, g1, _, _, _, g5⟩ := hc.many
  exact ev_methB x ho g1 (g5 m m1 m2) h hp (hx ▸ .cons (.objB (φ := crM C c) hc) ha)
def SpSize (K : Fg) (C : Addr) : Sp := SpF K (fun c : Cr => [asCr C c]) (fun _ => True) (fun c => .dat (.int c.n))
theorem c_Crossing_size (T : Txt K mg a) : CalM P w K mg base CX0 1 a.c_Crossing "size" ["self"] (SpSize K a.c_Crossing) := by
  refine calm_ok T.m_Crossing_size sc_Crossing_size (fun _ => rfl) fun f cdv A outer s B vs R E c hr hp ha hR => ?_
  refine ⟨_, (pss_one (ps_ret (pe_fldK K (by rfl) (pv 0) (by rfl)))), ?_⟩
  try dsimp only [cxOf, Cx.nox, Cx.wish]
  cases ha with
  | cons h1 ha =>
  cases ha
  obtain ⟨b, rfl, hc⟩ := h1
  obtain ⟨dx, gs, d, g1, g2, g3, g4, _⟩ := CrAt.many hc
  refine body_at (K := K) [.adr b] (.cons (.adr b) .nil) (L := [some (.adr b)]) ?_
  (walk_at "s"); refine s_ret (ev_fldB (ev_var rfl) g1 T.cls_Crossing T.n_Crossing_many g2 (.int _)) ?_
  exact hR
theorem ev_size {B : Hp} {O : Own} {L : Sl} {ta : TE} {E : XK} {C b : Addr} {c : Cr} (hc : CrAt C B b c) (h : Ev K B O L ta (.dat (.adr b))) : Ev K B O L (tMeth C "size" (SpSize K C) [] E ta tNil) (.dat (.int c.n)) :=
  ev_crM c hc h ea_nil trivial .nil
def SpClashes (K : Fg) (C : Addr) : Sp := SpF K (fun c : Cr => [asCr C c]) (fun _ => True) (fun c => .new (.lst ((srtP c.ps).map dPr)))
theorem c_Crossing_clashes (T : Txt K mg a) : CalM P w K mg base CX0 1 a.c_Crossing "clashes" ["self"] (SpClashes K a.c_Crossing) := by
  refine calm_ok T.m_Crossing_clashes sc_Crossing_clashes (fun _ => rfl) fun f cdv A outer s B vs R E c hr hp ha hR => ?_
  refine ⟨_, (pss_one (ps_ret (pe_callB (cr_sortD rfl) (by rfl) T.z_sorted (by decide +kernel) (pa_cons (pe_fldK K (by rfl) (pv 0) (by rfl)) pa_nil)))), ?_⟩
  try dsimp only [cxOf, Cx.nox, Cx.wish]
  cases ha with
  | cons h1 ha =>
  cases ha
  obtain ⟨b, rfl, hc⟩ := h1
  have hc : CrAt a.c_Crossing B b c := hc
  obtain ⟨dx, gs, d, g1, g2, g3, g4, _⟩ := CrAt.many hc
  refine body_at (K := K) [.adr b] (.cons (.adr b) .nil) (L := [some (.adr b)]) ?_
  (walk_at "s"); refine s_ret (ev_sortD (ps := c.ps) (ev_fldB (ev_var rfl) g1 T.cls_Crossing T.n_Crossing_pairs g3 (.adr d)) (fun _ _ _ s => s.ex _ _ g4)) ?_
  exact hR
theorem ev_clashes {B : Hp} {O : Own} {L : Sl} {ta : TE} {E : XK} {C b : Addr} {c : Cr} (hc : CrAt C B b c) (h : Ev K B O L ta (.dat (.adr b))) : Ev K B O L (tMeth C "clashes" (SpClashes K C) [] E ta tNil) (.new (.lst ((srtP c.ps).map dPr))) :=
  ev_crM c hc h ea_nil trivial .nil
end
end My

/-! ### the laws' own crossings -/
namespace My
open PySem PySem.Spec PyProof.Rows L2 GT
section
variable {P : Program} {w : World} {K : Fg} {mg : Str → Option Value} {base : Heap} {a : Adr}
def SpRing (K : Fg) : Sp := SpF K (fun x : Int × Nat => [.dat (.int x.1), .dat (.int x.2)]) (fun x => x.2 ≤ 6) (fun x => .new (.lst ((ringL x.1 x.2).map dPr)))
theorem c__law_ring (T : Txt K mg a) : Cal P w K mg base CX0 1 "_law_ring" ["cell", "streams"] (SpRing K) := by
  refine cal_ok T.f__law_ring sc__law_ring (fun _ => rfl) fun f cdv A outer s B vs R E x hr hp ha hR => ?_
  obtain ⟨c, n⟩ := x
  dsimp only at hp hR ha
  refine ⟨_, (pss_cons (ps_set (i := 2) sc__law_ring.nd rfl (Or.inl rfl) (pe_op op_add pe_int (pe_op op_mod (pv 0) pe_int)))
  (pss_cons (ps_set (i := 3) sc__law_ring.nd rfl (Or.inl rfl) (pe_op op_mulW (pe_op op_mod (pe_op op_fdivW (pv 0) pe_int) pe_int) (pe_op op_sub (pv 1) pe_int)))
  (pss_cons (ps_set (i := 4) sc__law_ring.nd rfl (Or.inl rfl) (pe_lst pa_nil))
  (pss_cons (ps_for PassesOwn.never rfl (pi_range1 (by rfl) T.z_range (pa_cons pe_int pa_nil)) (pg_name (i := 5) sc__law_ring.nd rfl (Or.inl rfl))
    (pss_one (ps_expr (pe_bm PySem.F.plainAttrs_list PySem.F.slot_list_append PySem.F.type_list_append mt_append (pv 4) (pa_cons (pe_tup (pa_cons (pe_op op_add (pv 3) (pv 5)) (pa_cons (pe_op op_add (pv 3) (pe_op op_mod (pe_op op_add (pv 5) (pv 2)) pe_int)) pa_nil))) pa_nil)))))
  (pss_cut (ps_if (pt_cmpR op_eq (pv 1) pe_int (nomark _)) (pss_cons (ps_set (i := 6) sc__law_ring.nd rfl (Or.inl rfl) (pe_op op_sub pe_int (pe_op op_mulW pe_int (pv 3))))
  (pss_one (ps_for PassesOwn.never rfl (pi_range1 (by rfl) T.z_range (pa_cons pe_int pa_nil)) (pg_name (i := 5) sc__law_ring.nd rfl (Or.inl rfl))
    (pss_cut (ps_if (pt_cmpR op_eq (pe_op op_mod (pe_op op_fdivW (pv 0) pe_int) pe_int) pe_int (nomark _)) (pss_one (ps_expr (pe_bm PySem.F.plainAttrs_list PySem.F.slot_list_append PySem.F.type_list_append mt_append (pv 4) (pa_cons (pe_tup (pa_cons (pv 6) (pa_cons (pe_op op_add (pv 3) (pv 5)) pa_nil))) pa_nil)))) pss_nil)
  (pss_one (ps_set (i := 0) sc__law_ring.nd rfl (Or.inl rfl) (pe_op op_fdivW (pv 0) pe_int))))))) pss_nil)
  (pss_one (ps_ret (pv 4)))))))), ?_⟩
  try dsimp only [cxOf, Cx.nox, Cx.wish]
  cases ha with
  | cons h1 ha => cases ha with
  | cons h2 ha =>
  cases ha
  refine body_at (K := K) [.int c, .int n] (.cons h1 (.cons h2 .nil)) (L := [some (.int c), some (.int n), none, none, none, none, none]) ?_
  have p2 : (0 : Int) < 2 := by decide
  have p5 : (0 : Int) < 5 := by decide
  have d2 : ∀ x, CDivW x 2 := fun x => divK (by decide) (by decide)
  have d4 : ∀ x, CDivW x 4 := fun x => divK (by decide) (by decide)
  have e1 := Int.emod_nonneg (c / 2) (show (2 : Int) ≠ 0 by decide)
  have e2 := Int.emod_lt_of_pos (c / 2) (show (0 : Int) < 2 by decide)
  have c1 : CMulW (c / 2 % 2) ((n : Int) - 5) := mulW (a := 2) (b := 4) (by omega) (by omega) (by omega)
  have hfb : (c / 2 % 2 * ((n : Int) - 5)).natAbs < 2 ^ 6 := by
    rw [Int.natAbs_mul]
    exact Nat.lt_of_lt_of_le (Nat.mul_lt_mul'' (show (c / 2 % 2).natAbs < 2 by omega) (show ((n : Int) - 5).natAbs < 6 by omega)) (by decide)
  have c2 : CMulW 5 (c / 2 % 2 * ((n : Int) - 5)) := mulW (a := 4) (by decide) hfb (by omega)
  have hq : ringL c n = ringL c n := rfl
  walk_at "go"
  any_goals exact d2 _
  (walk_at "s"); refine s_asgN (ob := .lst []) (ev_lst ed_nil) fun p => ?_
  (walk_at "s"); refine s_forRA (n := 5) ?_ (by decide) (fun i => [(p, .lst ((ringA c n i).map dPr))]) (fun _ => [some (.int c), some (.int n), some (.int (1 + c % 2)), some (.int (c / 2 % 2 * ((n : Int) - 5))), some (.adr p), none, none]) s_ok ?_ ?_
  · walk_at "ed"
  · intro i hi
    rw [ringA_succ, List.map_append]
    (try dsimp only); refine s_app (j := 0) (d := dPr (c / 2 % 2 * ((n : Int) - 5) + (i : Int), c / 2 % 2 * ((n : Int) - 5) + ((i : Int) + (1 + c % 2)) % 5)) (ev_var rfl) rfl ?_ ?_ ?_
    · walk_at "ev"
    · unfold ringA
      rw [List.length_map, List.length_map, List.length_range]
      omega
    · exact s_okW (.same (.same (.same (.same (.same (.none (.none .nil)))))))
  refine s_cut [(p, .lst ((ringL c n).map dPr))] [none, none, none, none, some (.adr p), none, none] ?_ ?_
  · (try dsimp only); refine s_if (b := decide ((n : Int) = 6)) (et_test (ev_eqI (ev_var rfl) ev_int)) (fun h => ?_) (fun h => ?_)
    · have h6 : n = 6 := by have := of_decide_eq_true h; omega
      walk_at "go"
      refine s_forRA (n := 5) ?_ (by decide) (fun i => [(p, .lst ((ringA c n 5 ++ ringB c n i).map dPr))]) (fun i => [some (.int (c / (2 : Int) ^ i)), some (.int n), some (.int (1 + c % 2)), some (.int (c / 2 % 2 * ((n : Int) - 5))), some (.adr p), none, some (.int (5 - 5 * (c / 2 % 2 * ((n : Int) - 5))))]) (s_okO' ?_ ?_) ?_ ?_
      · walk_at "ed"
      · show _ = [(p, Ob.lst ((ringA c n 5 ++ []).map dPr))]
        rw [List.append_nil]
      · rw [Int.pow_zero, Int.ediv_one]
        exact .same (.same (.same (.same (.same (.none (.same .nil))))))
      · intro i hi
        refine s_cut [(p, .lst ((ringA c n 5 ++ ringB c n (i + 1)).map dPr))] [some (.int (c / (2 : Int) ^ i)), some (.int n), some (.int (1 + c % 2)), some (.int (c / 2 % 2 * ((n : Int) - 5))), some (.adr p), some (.int i), some (.int (5 - 5 * (c / 2 % 2 * ((n : Int) - 5))))] ?_ ?_
        · (try dsimp only); refine s_if (b := decide (c / (2 : Int) ^ i / 4 % 2 = 1)) (et_test (ev_eqI (ev_rI (ev_rI (ev_var rfl) ev_int (d4 _) fun _ => .int _) ev_int p2 fun _ => .int _) ev_int)) (fun hc => ?_) (fun hc => ?_)
          · refine s_app (j := 0) (d := dPr (5 - 5 * (c / 2 % 2 * ((n : Int) - 5)), c / 2 % 2 * ((n : Int) - 5) + (i : Int))) (ev_var rfl) rfl ?_ ?_ ?_
            · walk_at "ev"
            · rw [List.length_map, List.length_append]
              unfold ringA ringB
              rw [List.length_map, List.length_map, List.length_range]
              have := List.length_filter_le (fun (k : Nat) => decide (c / (2 : Int) ^ k / 4 % 2 = 1)) (List.range i)
              rw [List.length_range] at this
              omega
            · refine s_okO ?_ rfl
              show [(p, Ob.lst ((ringA c n 5 ++ ringB c n i).map dPr ++ [_]))] = _
              rw [ringB_succ, if_pos hc, ← List.append_assoc, List.map_append (l₂ := [_])]
              rfl
          · refine s_okO ?_ rfl
            rw [ringB_succ, if_neg (by rw [hc]; decide), List.append_nil]
        · walk_at "go"
          · exact d2 _
          · rw [half_pow]
            exact s_okW (.same (.same (.same (.same (.same (.none (.same .nil)))))))
      · refine s_okO' ?_ (.none (.none (.none (.none (.same (.none (.none .nil)))))))
        unfold ringL
        rw [if_pos h6]
    · have h6 : ¬ n = 6 := fun z => by have := of_decide_eq_false h; omega
      refine s_okO' ?_ (.none (.none (.none (.none (.same (.none (.none .nil)))))))
      unfold ringL
      rw [if_neg h6, List.append_nil]
  · (try dsimp only); refine s_retO (j := 0) (ev_var rfl) rfl ?_
    exact hR
theorem ev_ring {B : Hp} {O : Own} {L : Sl} {ta tb : TE} {E : XK} {c : Int} {n : Nat} (h1 : Ev K B O L ta (.dat (.int c))) (h2 : Ev K B O L tb (.dat (.int n))) (hn : n ≤ 6) : Ev K B O L (tCall (SpRing K) [] E (tCons ta (tCons tb tNil))) (.new (.lst ((ringL c n).map dPr))) :=
  ev_call (c, n) (ea_cons h1 (ea_cons h2 ea_nil)) hn (.cons .dat (.cons .dat .nil))
theorem swap_at (i j t : Int) : atI [dPr (i, j), dPr (j, i)] (t % 2) = some (dPr (if t % 2 = 0 then (i, j) else (j, i))) := by
  have h1 := Int.emod_nonneg t (show (2 : Int) ≠ 0 by decide)
  have h2 := Int.emod_lt_of_pos t (show (0 : Int) < 2 by decide)
  rcases (show t % 2 = 0 ∨ t % 2 = 1 by omega) with h | h
  · rw [h]; rfl
  · rw [h]; rfl
theorem quart_at (t : Int) : atI [Dt.int 0, Dt.int 1, Dt.int 2, Dt.int 15] (t % 4) = some (.int (quart (t % 4))) := by
  have h1 := Int.emod_nonneg t (show (4 : Int) ≠ 0 by decide)
  have h2 := Int.emod_lt_of_pos t (show (0 : Int) < 4 by decide)
  rcases (show t % 4 = 0 ∨ t % 4 = 1 ∨ t % 4 = 2 ∨ t % 4 = 3 by omega) with h | h | h | h <;> rw [h] <;> rfl
theorem quart_pos (t : Int) : 0 ≤ quart t := by
  unfold quart
  split
  · decide
  · split
    · decide
    · split <;> decide
def SpCl (K : Fg) : Sp := SpF K (fun x : List Int × Int × Nat => [.lst (x.1.map .int), .dat (.int x.2.1), .dat (.int x.2.2)]) (fun x => x.1.length ≤ 63 ∧ 0 ≤ x.2.1 ∧ x.2.2 ≤ 6) (fun x => .new (.lst ((clashesL x.1 x.2.1 x.2.2).map dPr)))
theorem c__law_clashes (T : Txt K mg a) : Cal P w K mg base CX0 2 "_law_clashes" ["script", "start", "streams"] (SpCl K) := by
  refine cal_ok T.f__law_clashes sc__law_clashes (fun _ => rfl) fun f cdv A outer s B vs R E x hr hp ha hR => ?_
  obtain ⟨ns, st, n⟩ := x
  dsimp only at hp hR ha
  obtain ⟨hn, hst, h6⟩ := hp
  refine ⟨_, (pss_cons (ps_set (i := 3) sc__law_clashes.nd rfl (Or.inl rfl) (Cal.pe (c__law_cell_at T) hr pass0 (pa_cons (pv 0) (pa_cons (pv 1) pa_nil))))
  (pss_cons (ps_set (i := 4) sc__law_clashes.nd rfl (Or.inl rfl) (Cal.pe (c__law_cell_at T) hr pass0 (pa_cons (pv 0) (pa_cons (pe_op op_add (pv 1) pe_int) pa_nil))))
  (pss_cons (ps_if (PW.pt (pw_and (pt_cmpR op_gt (pv 2) pe_int (nomark _)) (pw_and1 (pt_cmpR op_eq (pe_op op_mod (pv 3) pe_int) pe_int (nomark _))))) (pss_one (ps_ret (Cal.pe (c__law_ring T) hr pass0 (pa_cons (pe_op op_fdivW (pv 3) pe_int) (pa_cons (pv 2) pa_nil))))) pss_nil)
  (pss_cons (ps_set (i := 5) sc__law_clashes.nd rfl (Or.inl rfl) (pe_lst pa_nil))
  (pss_cons (ps_for PassesOwn.never rfl (pi_range1 (by rfl) T.z_range (pa_cons (pv 2) pa_nil)) (pg_name (i := 6) sc__law_clashes.nd rfl (Or.inl rfl))
    (pss_one (ps_for PassesOwn.never rfl (pi_range2 (by rfl) T.z_range (pa_cons (pe_op op_add (pv 6) pe_int) (pa_cons (pv 2) pa_nil))) (pg_name (i := 7) sc__law_clashes.nd rfl (Or.inl rfl))
    (pss_cut (ps_if (pt_cmpR op_eq (pe_op op_mod (pv 3) pe_int) pe_int (nomark _)) (pss_one (ps_expr (pe_bm PySem.F.plainAttrs_list PySem.F.slot_list_append PySem.F.type_list_append mt_append (pv 5) (pa_cons (pe_ix (r := rIxL K) ix_list (pe_lst (pa_cons (pe_tup (pa_cons (pv 6) (pa_cons (pv 7) pa_nil))) (pa_cons (pe_tup (pa_cons (pv 7) (pa_cons (pv 6) pa_nil))) pa_nil))) (pe_op op_mod (pv 4) pe_int) (fun _ _ => rfl)) pa_nil)))) pss_nil)
  (pss_cons (ps_set (i := 3) sc__law_clashes.nd rfl (Or.inl rfl) (pe_op op_fdivW (pv 3) pe_int))
  (pss_one (ps_set (i := 4) sc__law_clashes.nd rfl (Or.inl rfl) (pe_op op_fdivW (pv 4) pe_int))))))))
  (pss_cons (ps_set (i := 8) sc__law_clashes.nd rfl (Or.inl rfl) (pe_op op_mod (pv 4) pe_int))
  (pss_cons (ps_set (i := 9) sc__law_clashes.nd rfl (Or.inl rfl) (pe_slice (r := rSlL K) sl_list (pv 5) po_none (po_some (pe_ix (r := rIxL K) ix_list (pe_lst (pa_cons pe_int (pa_cons pe_int (pa_cons pe_int (pa_cons pe_int pa_nil))))) (pe_op op_mod (pe_op op_fdivW (pv 4) pe_int) pe_int) (fun _ _ => rfl)))))
  (pss_cut (ps_if (pt_cmpR op_eq (pe_op op_mod (pe_op op_fdivW (pv 4) pe_int) pe_int) pe_int (nomark _)) (pss_one (ps_setLc (i := 9) (own := [("pair", 10)]) (g := gName 10) (tt := tYes) rfl sc__law_clashes.nd rfl rfl (sw_true rfl rfl rfl (by decide +kernel)) (pi_list (pv 9)) (blkOk_by (own := [("pair", 10)]) (N := n__law_clashes) (sc := defScope s__law_clashes) (by decide +kernel)) (fun _ _ _ _ _ => pg_name (i := 10) sc__law_clashes.nd rfl (Or.inl rfl)) (fun _ _ _ _ _ => pts_nil) (fun _ _ _ _ _ => (pe_tup (pa_cons (pe_ix (r := rIxT K) ix_tup (pv 10) pe_int (fun _ _ => rfl)) (pa_cons (pe_ix (r := rIxT K) ix_tup (pv 10) pe_int (fun _ _ => rfl)) pa_nil)))))) pss_nil)
  (pss_one (ps_ret (pe_op op_cat (pe_op op_cat (pe_slice (r := rSlL K) sl_list (pv 5) (po_some (pv 8)) po_none) (pe_slice (r := rSlL K) sl_list (pv 5) po_none (po_some (pv 8)))) (pv 9)))))))))))), ?_⟩
  try dsimp only [cxOf, Cx.nox, Cx.wish]
  cases ha with
  | cons h1 ha => cases ha with
  | cons h2 ha => cases ha with
  | cons h3 ha =>
  cases ha
  obtain ⟨l, xs, rfl, hl1, hl2⟩ := h1
  have hl : LsR K B (.ref l) (ns.map .int) := ⟨l, xs, rfl, hl1, hl2⟩
  refine body_at (K := K) [.adr l, .int st, .int n] (.cons (.adr l) (.cons h2 (.cons h3 .nil))) (L := [some (.adr l), some (.int st), some (.int n), none, none, none, none, none, none, none, none]) ?_
  have p2 : (0 : Int) < 2 := by decide
  have p3 : (0 : Int) < 3 := by decide
  have p4 : (0 : Int) < 4 := by decide
  have d2 : ∀ x, CDivW x 2 := fun x => divK (by decide) (by decide)
  have d3 : ∀ x, CDivW x 3 := fun x => divK (by decide) (by decide)
  have d4 : ∀ x, CDivW x 4 := fun x => divK (by decide) (by decide)
  have d16 : ∀ x, CDivW x 16 := fun x => divK (by decide) (by decide)
  walk_at "go"
  (try any_goals omega)
  unfold clashesL at hR
  (try dsimp only); refine s_if (b := decide ((n : Int) > 4) && decide (cell ns st % 3 = 1)) (et_and (et_test (ev_rI0 (ev_var rfl) ev_int fun _ => .bl _)) fun _ => et_test (ev_eqI (ev_rI (ev_var rfl) ev_int p3 fun _ => .int _) ev_int)) (fun h => ?_) (fun h => s_end ?_)
  · have h' := Bool.and_eq_true_iff.mp h
    have g1 := of_decide_eq_true h'.1
    have g2 := of_decide_eq_true h'.2
    rw [if_pos ⟨by omega, g2⟩] at hR
    refine s_ret (ev_ring (ev_rI (ev_var rfl) ev_int (d3 _) fun _ => .int _) (ev_var rfl) h6) ?_
    exact hR
  have hne : ¬ (4 < n ∧ cell ns st % 3 = 1) := fun ⟨z1, z2⟩ => by
    rw [decide_eq_true (by omega : (n : Int) > 4), decide_eq_true z2] at h
    cases h
  rw [if_neg hne] at hR
  clear h hne
  (walk_at "s"); refine s_asgN (ob := .lst []) (ev_lst ed_nil) fun p => ?_
  generalize hz0 : (([], cell ns st, cell ns (st + 1)) : Pz) = z0 at hR
  have hlen : ∀ k, k ≤ n → (pairsC n z0 k).1.length ≤ 15 := fun k hk => by
    rw [← hz0]
    exact Nat.le_trans (pairsC_ok k hk).len (bnd_six n h6 k hk)
  (walk_at "s"); refine s_forRA (n := n) (ed_cons (ev_var rfl) ed_nil) (by omega) (fun k => [(p, .lst ((pairsC n z0 k).1.map dPr))]) (fun k => [some (.adr l), some (.int st), some (.int n), some (.int (pairsC n z0 k).2.1), some (.int (pairsC n z0 k).2.2), some (.adr p), none, none, none, none, none]) (s_okO' (by rw [← hz0]; rfl) (by rw [← hz0]; exact .same (.same (.same (.same (.same (.same (.none (.none (.none (.none (.none .nil)))))))))))) ?_ ?_
  · intro k hk
    have hk15 := hlen k (by omega)
    rw [pairsC_succ]
    generalize pairsC n z0 k = z at hk15 ⊢
    (try dsimp only); refine s_forR2 (lo := k + 1) (hi := (n : Int)) (n := n - (k + 1)) (ed_cons (Ev.isD (ev_rI0 (ev_var rfl) ev_int fun _ => .int _) (by congr 1)) (ed_cons (ev_var rfl) ed_nil)) (by omega) (by omega) (by omega) (fun i => [(p, .lst ((rowC k z i).1.map dPr))]) (fun i => [some (.adr l), some (.int st), some (.int n), some (.int (rowC k z i).2.1), some (.int (rowC k z i).2.2), some (.adr p), some (.int k), none, none, none, none]) s_ok ?_ ?_
    · intro i hi
      have hrl : (rowC k z i).1.length ≤ 15 + 6 := by
        have hstep : ∀ i, (rowC k z i).1.length ≤ 15 + i := by
          intro i
          induction i with
          | zero => exact hk15
          | succ i ih =>
            rw [rowC_succ]
            unfold stepC
            dsimp only
            split
            · rw [List.length_append, List.length_singleton]
              omega
            · omega
        have := hstep i
        omega
      rw [rowC_succ]
      generalize rowC k z i = y at hrl ⊢
      obtain ⟨ps, c, t⟩ := y
      dsimp only at hrl ⊢
      have es : ((k + 1 + i : Nat) : Int) = ((k + 1 + i : Nat) : Int) := rfl
      refine s_cut [(p, .lst ((stepC k (ps, c, t) ((k + 1 + i : Nat) : Int)).1.map dPr))] [some (.adr l), some (.int st), some (.int n), some (.int c), some (.int t), some (.adr p), some (.int k), some (.int ((k + 1 + i : Nat) : Int)), none, none, none] ?_ ?_
      · (try dsimp only); refine s_if (b := decide (c % 2 = 1)) (et_test (ev_eqI (ev_rI (ev_var rfl) ev_int p2 fun _ => .int _) ev_int)) (fun hc => ?_) (fun hc => ?_)
        · refine s_app (j := 0) (d := dPr (if t % 2 = 0 then ((k : Int), ((k + 1 + i : Nat) : Int)) else (((k + 1 + i : Nat) : Int), (k : Int)))) (ev_var rfl) rfl (ev_ixL (i := t % 2) (r := .new (.lst [dPr ((k : Int), ((k + 1 + i : Nat) : Int)), dPr (((k + 1 + i : Nat) : Int), (k : Int))])) ?_ Ls.new (ev_rI (ev_var rfl) ev_int p2 fun _ => .int _) (swap_at _ _ _)) ?_ ?_
          · walk_at "ev"
          · rw [List.length_map]
            omega
          · refine s_okO ?_ rfl
            unfold stepC
            dsimp only
            rw [if_pos hc, List.map_append]
            rfl
        · refine s_okO ?_ rfl
          unfold stepC
          dsimp only
          rw [if_neg (by rw [hc]; decide)]
      · walk_at "go"
        any_goals exact d2 _
        exact s_okW (.same (.same (.same (.same (.same (.same (.same (.none (.none (.none (.none .nil)))))))))))
    · exact s_okW (.same (.same (.same (.same (.same (.same (.none (.none (.none (.none (.none .nil)))))))))))
  have hk15 := hlen n (Nat.le_refl _)
  generalize pairsC n z0 n = z at hk15 hR ⊢
  obtain ⟨ps, c, t⟩ := z
  dsimp only at hk15 hR ⊢
  walk_at "go"
  have q0 := quart_pos (t / 4 % 4)
  have m0 := Int.emod_nonneg t (show (4 : Int) ≠ 0 by decide)
  refine s_asgN (ob := .lst ((ps.take (quart (t / 4 % 4)).toNat).map dPr)) (Ev.isL (ev_slL (hi := some (quart (t / 4 % 4))) (ev_var rfl) (Ls.own (j := 0) rfl) eo_none (eo_some (ev_ixL (i := t / 4 % 4) (r := .new (.lst [.int 0, .int 1, .int 2, .int 15])) ?_ Ls.new (ev_rI (ev_rI (ev_var rfl) ev_int (d4 _) fun _ => .int _) ev_int p4 fun _ => .int _) (quart_at _)))) ?_) fun pq => ?_
  · walk_at "ev"
  · rw [cutD_takeG q0, List.map_take]
  refine s_cutE (ι := Addr) (fun q => [(p, .lst (ps.map dPr)), (q, .lst ((if t / 16 % 2 = 1 then (ps.take (quart (t / 4 % 4)).toNat).map swapP else ps.take (quart (t / 4 % 4)).toNat).map dPr))]) (fun q => [some (.adr l), some (.int st), some (.int n), some (.int c), some (.int t), some (.adr p), none, none, some (.int (t % 4)), some (.adr q), none]) ?_ fun q => ?_
  · (try dsimp only); refine s_if (b := decide (t / 16 % 2 = 1)) (et_test (ev_eqI (ev_rI (ev_rI (ev_var rfl) ev_int (d16 _) fun _ => .int _) ev_int p2 fun _ => .int _) ev_int)) (fun hc => ?_) (fun hc => ?_)
    · refine s_asgN (ob := .lst (((ps.take (quart (t / 4 % 4)).toNat).map swapP).map dPr)) (Ev.isL (ev_lcA (enc := dPr) (ys := ps.take (quart (t / 4 % 4)).toNat) (p := fun _ => true) (f := fun x => dPr (swapP x)) (ev_var rfl) (Ls.own (j := 1) rfl) (by rw [List.length_take]; omega) (fun y hy => et_yes) (fun y hy _ => ?_)) ?_) fun q => ?_
      · show Ev K B _ _ _ (.dat (.tup [.int y.2, .int y.1]))
        walk_at "ev"
      · rw [filter_true, List.map_map]
        rfl
      · refine s_okE q (s_sub (O' := [(p, .lst (ps.map dPr)), (q, .lst (((ps.take (quart (t / 4 % 4)).toNat).map swapP).map dPr))]) (.cons₂ _ (.cons _ (.cons₂ _ .slnil))) (s_okO' ?_ ?_))
        · rw [if_pos (of_decide_eq_true hc)]
        · exact .same (.same (.same (.same (.same (.same (.none (.none (.same (.same (.none .nil))))))))))
    · refine s_okE pq (s_okO' ?_ ?_)
      · rw [if_neg (of_decide_eq_false hc)]
        rfl
      · exact .same (.same (.same (.same (.same (.same (.none (.none (.same (.same (.none .nil))))))))))
  · have ll : (if t / 16 % 2 = 1 then (ps.take (quart (t / 4 % 4)).toNat).map swapP else ps.take (quart (t / 4 % 4)).toNat).length ≤ 15 := by
      split
      · rw [List.length_map, List.length_take]
        omega
      · rw [List.length_take]
        omega
    generalize (if t / 16 % 2 = 1 then (ps.take (quart (t / 4 % 4)).toNat).map swapP else ps.take (quart (t / 4 % 4)).toNat) = tw at ll hR ⊢
    (try dsimp only); refine s_ret (Ev.isL (es := (ps.drop (t % 4).toNat ++ ps.take (t % 4).toNat ++ tw).map dPr) (ev_cat (ev_cat (ev_slL (ev_var rfl) (Ls.own (j := 0) rfl) (eo_some (ev_var rfl)) eo_none) Lm.new (ev_slL (ev_var rfl) (Ls.own (j := 0) rfl) eo_none (eo_some (ev_var rfl))) Lm.new ?_) Lm.new (ev_var rfl) (Lm.own (j := 1) rfl) ?_) ?_) ?_
    · rw [cutD_dropG m0, cutD_takeG m0, List.length_drop, List.length_take, List.length_map]
      omega
    · rw [List.length_append, cutD_dropG m0, cutD_takeG m0, List.length_drop, List.length_take, List.length_map, List.length_map]
      omega
    · rw [cutD_dropG m0, cutD_takeG m0, ← List.map_drop, ← List.map_take, ← List.map_append, ← List.map_append]
    · exact hR
theorem ev_cl {B : Hp} {O : Own} {L : Sl} {ta tb tc : TE} {E : XK} {r : Rs} {ns : List Int} {st : Int} {n : Nat} (h1 : Ev K B O L ta r) (hl : Ls K B O r (ns.map .int)) (h2 : Ev K B O L tb (.dat (.int st))) (h3 : Ev K B O L tc (.dat (.int n))) (hn : ns.length ≤ 63) (hs : 0 ≤ st) (h6 : n ≤ 6) :
    Ev K B O L (tCall (SpCl K) [] E (tCons ta (tCons tb (tCons tc tNil)))) (.new (.lst ((clashesL ns st n).map dPr))) :=
  ev_call (ns, st, n) (ea_cons h1 (ea_cons h2 (ea_cons h3 ea_nil))) ⟨hn, hs, h6⟩ (.cons (.lst hl) (.cons .dat (.cons .dat .nil)))
end
end My

/-! ### greenturns/crossing.py, its refusals -/
namespace My
open PySem PySem.Spec PyProof.Rows L2 GT
section
variable {P : Program} {w : World} {K : Fg} {mg : Str → Option Value} {base : Heap} {a : Adr}
def okI (n : Int) (p : Int × Int) : Bool := decide (0 ≤ p.1 ∧ p.1 < n ∧ 0 ≤ p.2 ∧ p.2 < n ∧ p.1 ≠ p.2)
def outNew (a : Adr) (x : Int × List (Int × Int)) : Option Addr := if x.1 < 1 ∨ 6 < x.1 then some a.c_BadSize else if x.2.all (okI x.1) = true then none else some a.c_BadClash
def SpNewX (K : Fg) (a : Adr) : Sp := SpInitE K a.c_Crossing (fun x : Int × List (Int × Int) => [.dat (.int x.1), .lst (x.2.map dPr)]) (fun x => x.2.length ≤ 1000) (outNew a) (fun x => crM a.c_Crossing (crOf x.1.toNat x.2))
theorem x_Crossing___init__ (T : Txt K mg a) : CalI P w K mg base (L2N.CX P w) 1 a.c_Crossing ["self", "streams", "clashes"] (SpNewX K a) := by
  refine caliX_ok T.i_Crossing sc_Crossing___init__ (fun _ => rfl) fun f cdv A outer s B H slf dx ws R E y hr hp h1 h2 h3 ha hR hX => ?_
  obtain ⟨n, cl⟩ := y
  have hlen : cl.length ≤ 1000 := hp
  dsimp only at ha hR hX
  refine ⟨_, (pss_cons (ps_if (PW.pt (pw_or (pt_cmpR op_lt (pv 1) pe_int (nomark _)) (pw_or1 (pt_cmpR op_gt (pv 1) (pe_globI (by rfl) T.g_MOST) (nomark _))))) (pss_one (L2N.ps_raise rfl (L2N.takes_of rfl rfl rfl rfl) (L2N.pmk_own PySem.F.excBase_ValueError T.x_BadSize.x T.g_BadSize T.x_BadSize.k (raises_own T.x_BadSize.b T.x_BadSize.t) rfl))) pss_nil)
  (pss_cons (ps_fld (pv 0) (pv 1) rfl)
  (pss_cons (ps_fld (pv 0) pe_dnewT rfl)
  (pss_one (ps_for PassesOwn.leaving rfl (pi_list (pv 2)) (pg_tup (by rfl) (pgs_cons (pg_name (i := 3) sc_Crossing___init__.nd rfl (Or.inl rfl)) (pgs_cons (pg_name (i := 4) sc_Crossing___init__.nd rfl (Or.inl rfl)) pgs_nil)))
    (pss_cons (ps_if (PW.pt (pw_or (pt_cmpR op_lt (pv 3) pe_int (nomark _)) (pw_or (pt_cmpR op_ge (pv 3) (pv 1) (nomark _)) (pw_or (pt_cmpR op_lt (pv 4) pe_int (nomark _)) (pw_or (pt_cmpR op_ge (pv 4) (pv 1) (nomark _)) (pw_or1 (pt_cmpR op_eq (pv 3) (pv 4) (nomark _)))))))) (pss_one (L2N.ps_raise rfl (L2N.takes_of rfl rfl rfl rfl) (L2N.pmk_own PySem.F.excBase_ValueError T.x_BadClash.x T.g_BadClash T.x_BadClash.k (raises_own T.x_BadClash.b T.x_BadClash.t) rfl))) pss_nil)
  (pss_one (ps_dput (hu_of hr) (pe_fldK K (by rfl) (pv 0) (by rfl)) (pe_tup (pa_cons (pe_callB (call_min2 rfl) (by rfl) T.z_min (by decide +kernel) (pa_cons (pv 3) (pa_cons (pv 4) pa_nil))) (pa_cons (pe_callB (call_max2 rfl) (by rfl) T.z_max (by decide +kernel) (pa_cons (pv 3) (pa_cons (pv 4) pa_nil))) pa_nil))) pe_bl rfl)))))))), ?_⟩
  try dsimp only [cxOf, Cx.nox, Cx.wish]
  cases ha with
  | cons k1 ha => cases ha with
  | cons k2 ha =>
  cases ha
  obtain ⟨l, xs, rfl, hl1, hl2⟩ := k2
  have hl : LsR K B (.ref l) (cl.map dPr) := ⟨l, xs, rfl, hl1, hl2⟩
  refine body_atO (K := K) (B := B) (O := [(slf, .ins a.c_Crossing dx [])]) [.adr slf, .int n, .adr l] (.cons (.adr slf) (.cons (Tp.same h2 k1) (.cons (.adr l) .nil))) h2 (fun p hp => by
    rw [List.mem_singleton.mp hp]
    exact ⟨h1, [], h3, .nil⟩) (by simp) (L := [some (.adr slf), some (.int n), some (.adr l), none, none]) ?_
  (walk_at "s"); refine s_if (b := decide (n < 1) || decide (n > 6)) (et_or (et_test ?_) fun _ => et_test ?_) (fun h => ?_) fun h => s_end ?_
  · walk_at "ev"
  · walk_at "ev"
  · refine s_raise (E := E) (C := a.c_BadSize) (hX _ ?_)
    have h' : n < 1 ∨ 6 < n := by simpa using h
    unfold outNew
    rw [if_pos h']
  have hn : ¬ (n < 1 ∨ 6 < n) := by simpa using h
  have eout : outNew a (n, cl) = if cl.all (okI n) = true then none else some a.c_BadClash := if_neg hn
  obtain ⟨m, rfl⟩ : ∃ m : Nat, n = m := ⟨n.toNat, by omega⟩
  have em : (m : Int).toNat = m := Int.toNat_natCast m
  (walk_at "s"); refine s_fld (j := 0) (ev_var rfl) (ev_var rfl) rfl T.cls_Crossing T.n_Crossing_many (by show 0 < 1000; decide) ?_
  (walk_at "s"); refine s_fldRaw (j := 0) (ev_var rfl) rfl T.cls_Crossing T.n_Crossing_pairs (by show 1 < 1000; decide) fun d => ?_
  show Nx K B [(slf, .ins a.c_Crossing dx [("many", .int m), ("pairs", .adr d)]), (d, .raw (.dT (kvsOf [])))] _ _
  (walk_at "s"); refine s_forI (enc := dPr) (ys := cl) (ev_var rfl) (fun p => [(slf, .ins a.c_Crossing dx [("many", .int m), ("pairs", .adr d)]), (d, .raw (.dT (kvsOf ((p.map norm).foldl addP []))))]) (fun p y => [some (.adr slf), some (.int m), some (.adr l), some (.int y.1), some (.int y.2)]) (fun p => [some (.adr slf), some (.int m), some (.adr l), none, none]) (fun p => p.all (okI m) = true) (fun _ => Ls.base hl) rfl s_ok (fun p y => tg_tup2) (fun p y post e hI => ?_) fun hI => ?_
  · obtain ⟨i, j⟩ := y
    (walk_at "s"); refine s_if (b := decide (i < 0) || (decide (i ≥ (m : Int)) || (decide (j < 0) || (decide (j ≥ (m : Int)) || decide (i = j))))) (et_or (et_test ?_) fun _ => et_or (et_test ?_) fun _ => et_or (et_test ?_) fun _ => et_or (et_test ?_) fun _ => et_test ?_) (fun h => ?_) fun h => s_end ?_
    · walk_at "ev"
    · walk_at "ev"
    · walk_at "ev"
    · walk_at "ev"
    · walk_at "ev"
    · refine s_raise (E := E) (C := a.c_BadClash) (hX _ ?_)
      rw [eout, if_neg]
      intro hall
      have := List.all_eq_true.mp hall (i, j) (e ▸ List.mem_append_right _ List.mem_cons_self)
      simp [okI] at this h
      omega
    · have el : (((p ++ [(i, j)]).map norm).foldl addP []) = addP ((p.map norm).foldl addP []) (norm (i, j)) := by
        rw [List.map_append, List.foldl_append]
        rfl
      rw [el]
      have hz : ((p.map norm).foldl addP []).length < 100000 := by
        have h1 := foldl_addP_len (p.map norm) []
        rw [List.length_map] at h1
        rw [e, List.length_append] at hlen
        simp at h1
        omega
      refine s_dput (n := 1) (d := d) ev_bl (ev_fldO (j := 0) (ev_var rfl) rfl T.cls_Crossing T.n_Crossing_pairs rfl) rfl (i := (norm (i, j)).1) (j := (norm (i, j)).2) (ed_cons (ev_min2 (ev_var rfl) (ev_var rfl)) (ed_cons (ev_max2 (ev_var rfl) (ev_var rfl)) ed_nil)) hz ?_
      refine s_okI ?_ (s_okW (.same (.same (.same (.none (.none .nil))))))
      rw [List.all_append, hI]
      simp [okI] at h ⊢
      omega
  · intro σ H' s
    refine hR (by rw [eout, if_pos hI]) H' s.ex ?_
    obtain ⟨gs, g1, g2⟩ := (s.at (j := 0) rfl).2
    obtain ⟨g3, _⟩ := (s.at (j := 1) rfl).2
    cases g2 with
    | cons r1 t => cases t with
      | cons r2 t2 =>
        cases t2
        cases r1
        cases r2
        rw [em]
        exact ⟨dx, d, g1, g3⟩
end
end My

/-! ### greenturns/notes.py, where nothing is refused -/
namespace My
open PySem PySem.Spec PyProof.Rows L2 GT SetX RevX
/-- a made thing is handed back -/
theorem s_retObj {K : Fg} {B : Hp} {O : Own} {L : Sl} {te : TE} {D : Ends} {φ : Mono} {b : Addr} (h : Ev K B O L te (.dat (.adr b))) (hb : φ.p B b) (k : Rt K B D.rt (.obj φ)) : Nx K B O L (tRet te D) := fun σ H s =>
  h σ H s _ fun v H1 e1 r1 => by
    cases r1
    exact k _ H1 (s.ex.trans e1) ⟨b, rfl, φ.up _ _ _ (s.ex.trans e1) hb⟩
theorem fig_ok {c : Cr} (h : c.Ok) : ∀ p, p ∈ srtP c.ps → okF p := fun p hp => by
  have := h.ps p (srt_mem.mp hp)
  have := h.n6
  unfold okF
  omega
theorem ofF {p : Int × Int} (h : okF p) : p.1 = (p.1.toNat : Int) ∧ p.2 = (p.2.toNat : Int) ∧ p.1.toNat < 10 ∧ p.2.toNat < 10 := by
  unfold okF at h
  omega
section
variable {P : Program} {w : World} {K : Fg} {mg : Str → Option Value} {base : Heap} {a : Adr}
def SpShown (K : Fg) (C : Addr) : Sp := SpF K (fun c : Cr => [asCr C c]) (fun c => c.Ok ∧ c.ps.length ≤ 1000) (fun c => .dat (dS (txtT c.n (srtP c.ps))))
theorem c_shown (T : Txt K mg a) : Cal P w K mg base CX0 2 "shown" ["crossing"] (SpShown K a.c_Crossing) := by
  refine cal_ok T.f_shown sc_shown (fun _ => rfl) fun f cdv A outer s B vs R E c hr hp ha hR => ?_
  obtain ⟨hok, hlen⟩ := hp
  refine ⟨_, (pss_cons (ps_set (i := 1) sc_shown.nd rfl (Or.inl rfl) (pe_op op_add_str (pe_callTy call_str_int (by rfl) T.z_str (by decide +kernel) (pa_cons (CalM.pe0 (c_Crossing_size T) (pv 0) hr pass0) pa_nil)) pe_str))
  (pss_cons (ps_for PassesOwn.never rfl (pi_list (CalM.pe0 (c_Crossing_clashes T) (pv 0) hr pass0)) (pg_name (i := 2) sc_shown.nd rfl (Or.inl rfl))
    (pss_one (ps_set (i := 1) sc_shown.nd rfl (Or.inl rfl) (pe_op op_add_str (pe_op op_add_str (pe_op op_add_str (pe_op op_add_str (pv 1) pe_str) (pe_callTy call_str_int (by rfl) T.z_str (by decide +kernel) (pa_cons (pe_ix (r := rIxT K) ix_tup (pv 2) pe_int (fun _ _ => rfl)) pa_nil))) pe_str) (pe_callTy call_str_int (by rfl) T.z_str (by decide +kernel) (pa_cons (pe_ix (r := rIxT K) ix_tup (pv 2) pe_int (fun _ _ => rfl)) pa_nil))))))
  (pss_one (ps_ret (pv 1))))), ?_⟩
  try dsimp only [cxOf, Cx.nox, Cx.wish]
  cases ha with
  | cons h1 ha =>
  cases ha
  obtain ⟨b, rfl, hc⟩ := h1
  have hc : CrAt a.c_Crossing B b c := hc
  refine body_at (K := K) [.adr b] (.cons (.adr b) .nil) (L := [some (.adr b), none, none]) ?_
  have n6 := hok.n6
  have hfig := fig_ok hok
  have hl : (srtP c.ps).length ≤ 1000 := by rw [srt_len]; exact hlen
  (walk_at "s"); refine s_asg (ev_catS (ev_strN (ev_size hc (ev_var rfl)) (by omega)) (ev_sc (a := [58]) rfl) (by simp)) ?_
  (walk_at "s"); refine s_forN (ev_clashes hc (ev_var rfl)) fun p => ?_
  generalize srtP c.ps = ps at hfig hl hR ⊢
  refine s_for (enc := dPr) (ys := ps) ev_adr (fun _ => [(p, .lst (ps.map dPr))]) (fun pre y => [some (.adr b), some (dS (txtT c.n pre)), some (dPr y)]) (fun pre => [some (.adr b), some (dS (txtT c.n pre)), none]) (fun _ => Ls.own (j := 0) rfl) (s_okL (by unfold txtT tailT; rfl)) (fun p y => tg_name) (fun pre y post e => ?_) ?_
  · have hy := ofF (hfig y (e ▸ List.mem_append_right pre List.mem_cons_self))
    have hpl : pre.length ≤ 1000 := by rw [e, List.length_append] at hl; omega
    have htl : (txtT c.n pre).length = 2 + 4 * pre.length := by unfold txtT; rw [List.length_append, tailT_len]; rfl
    have en : txtT c.n (pre ++ [y]) = (((txtT c.n pre ++ [32]) ++ [48 + y.1.toNat]) ++ [45]) ++ [48 + y.2.toNat] := by
      unfold txtT
      rw [tailT_snoc]
      simp [pairT]
    rw [en]
    have i0 : ∀ {O : Own} {L : Sl}, L[2]? = some (some (dPr y)) → Ev K B O L (tOp (rIxT K) (tVar 2) (tC (.int 0))) (.dat (.int y.1.toNat)) := fun h => Ev.isD (ev_ixT (ds := [.int y.1, .int y.2]) (ev_var h) ev_int rfl) (congrArg Dt.int hy.1)
    have i1 : ∀ {O : Own} {L : Sl}, L[2]? = some (some (dPr y)) → Ev K B O L (tOp (rIxT K) (tVar 2) (tC (.int 1))) (.dat (.int y.2.toNat)) := fun h => Ev.isD (ev_ixT (ds := [.int y.1, .int y.2]) (ev_var h) ev_int rfl) (congrArg Dt.int hy.2.1)
    (walk_at "s"); refine s_asg (ev_catS (ev_catS (ev_catS (ev_catS (ev_var rfl) (ev_sc (a := [32]) rfl) ?_) (ev_strN (i0 rfl) hy.2.2.1) ?_) (ev_sc (a := [45]) rfl) ?_) (ev_strN (i1 rfl) hy.2.2.2) ?_) ?_
    any_goals (simp only [List.length_append, List.length_cons, List.length_nil, htl]; omega)
    exact s_okW (.same (.same (.none .nil)))
  · (walk_at "s"); refine s_ret (ev_var rfl) ?_
    exact hR
theorem ev_shown {B : Hp} {O : Own} {L : Sl} {ta : TE} {E : XK} {C b : Addr} {c : Cr} (hc : CrAt C B b c) (h : Ev K B O L ta (.dat (.adr b))) (hp : c.Ok ∧ c.ps.length ≤ 1000) : Ev K B O L (tCall (SpShown K C) [] E (tCons ta tNil)) (.dat (dS (txtT c.n (srtP c.ps)))) :=
  ev_call c (ea_cons h ea_nil) hp (.cons (.objB (φ := crM C c) hc) .nil)
theorem ev_shownO {B : Hp} {O : Own} {L : Sl} {ta : TE} {E : XK} {C : Addr} {c : Cr} (h : Ev K B O L ta (.obj (crM C c))) (hp : c.Ok ∧ c.ps.length ≤ 1000) : Ev K B O L (tCall (SpShown K C) [] E (tCons ta tNil)) (.dat (dS (txtT c.n (srtP c.ps)))) :=
  ev_call c (ea_cons h ea_nil) hp (.cons (AsOf.obj fun H a p => ⟨a, rfl, p⟩) .nil)
def SpLshown (K : Fg) : Sp := SpF K (fun x : List (Int × Int) × Nat => [.lst (x.1.map dPr), .dat (.int x.2)]) (fun x => x.2 ≤ 6 ∧ x.1.length ≤ 60 ∧ ∀ p, p ∈ x.1 → okP x.2 p) (fun x => .dat (dS (txtT x.2 (srtU (x.1.map norm)))))
theorem c__law_shown (T : Txt K mg a) : Cal P w K mg base CX0 1 "_law_shown" ["clashes", "streams"] (SpLshown K) := by
  refine cal_ok T.f__law_shown sc__law_shown (fun _ => rfl) fun f cdv A outer s B vs R E x hr hp ha hR => ?_
  obtain ⟨cl, n⟩ := x
  dsimp only at hp hR ha
  obtain ⟨n6, hlen, hok⟩ := hp
  refine ⟨_, (pss_cons (ps_set (i := 2) sc__law_shown.nd rfl (Or.inl rfl) (pe_op op_add_str (pe_callTy call_str_int (by rfl) T.z_str (by decide +kernel) (pa_cons (pv 1) pa_nil)) pe_str))
  (pss_cons (ps_for PassesOwn.never rfl (pi_list (pe_callB (cr_sortedT rfl) (by rfl) T.z_sorted (by decide +kernel) (pa_cons (pe_callTy (cr_setOfT rfl hr.units) (by rfl) T.z_set (by decide +kernel) (pa_cons (pe_lc (own := [("pair", 3)]) (g := gName 3) (tt := tYes) rfl sc__law_shown.nd (pi_list (pv 0)) (blkOk_by (own := [("pair", 3)]) (N := n__law_shown) (sc := defScope s__law_shown) (by decide +kernel)) (fun _ _ _ _ _ => pg_name (i := 3) sc__law_shown.nd rfl (Or.inl rfl)) (fun _ _ _ _ _ => pts_nil) (fun _ _ _ _ _ => (pe_tup (pa_cons (pe_callB (r := rMinT K) (cr_minT rfl) (by rfl) T.z_min (by decide +kernel) (pa_cons (pv 3) pa_nil)) (pa_cons (pe_callB (r := rMaxT K) (cr_maxT rfl) (by rfl) T.z_max (by decide +kernel) (pa_cons (pv 3) pa_nil)) pa_nil))))) pa_nil)) pa_nil))) (pg_name (i := 3) sc__law_shown.nd rfl (Or.inl rfl))
    (pss_one (ps_set (i := 2) sc__law_shown.nd rfl (Or.inl rfl) (pe_op op_add_str (pe_op op_add_str (pe_op op_add_str (pe_op op_add_str (pv 2) pe_str) (pe_callTy call_str_int (by rfl) T.z_str (by decide +kernel) (pa_cons (pe_ix (r := rIxT K) ix_tup (pv 3) pe_int (fun _ _ => rfl)) pa_nil))) pe_str) (pe_callTy call_str_int (by rfl) T.z_str (by decide +kernel) (pa_cons (pe_ix (r := rIxT K) ix_tup (pv 3) pe_int (fun _ _ => rfl)) pa_nil))))))
  (pss_one (ps_ret (pv 2))))), ?_⟩
  try dsimp only [cxOf, Cx.nox, Cx.wish]
  cases ha with
  | cons h1 ha => cases ha with
  | cons h2 ha =>
  cases ha
  obtain ⟨l, xs, rfl, hl1, hl2⟩ := h1
  have hl0 : LsR K B (.ref l) (cl.map dPr) := ⟨l, xs, rfl, hl1, hl2⟩
  refine body_at (K := K) [.adr l, .int n] (.cons (.adr l) (.cons h2 .nil)) (L := [some (.adr l), some (.int n), none, none]) ?_
  have hbn : ∀ p, p ∈ cl.map norm → (0 ≤ p.1 ∧ p.1 < 64) ∧ 0 ≤ p.2 ∧ p.2 < 64 := fun p hp => by
    obtain ⟨q, hq, rfl⟩ := List.mem_map.mp hp
    have := norm_ok (hok q hq)
    omega
  have hfig : ∀ p, p ∈ srtU (cl.map norm) → okF p := fun p hp => by
    obtain ⟨q, hq, rfl⟩ := List.mem_map.mp (srtU_mem.mp hp)
    have := norm_ok (hok q hq)
    unfold okF
    omega
  have hl : (srtU (cl.map norm)).length ≤ 1000 := by
    refine Nat.le_trans (srtU_len _) ?_
    rw [List.length_map]
    omega
  (walk_at "s"); refine s_asg (ev_catS (ev_strN (ev_var rfl) (by omega)) (ev_sc (a := [58]) rfl) (by simp)) ?_
  (walk_at "s"); refine s_forN (ev_sortSetP (ps := cl.map norm) (Ev.isL (ev_lcA (enc := dPr) (ys := cl) (p := fun _ => true) (f := fun p => dPr (norm p)) (ev_var rfl) (Ls.base hl0) (by omega) (fun _ _ => et_yes) (fun p hp _ => ev_tup (ed_cons (ev_minT (g := [p.1, p.2]) (ev_var rfl) (norm_min p)) (ed_cons (ev_maxT (g := [p.1, p.2]) (ev_var rfl) (norm_max p)) ed_nil)))) (by rw [filter_true, List.map_map]; rfl)) (by rw [List.length_map]; omega) hbn) fun p => ?_
  generalize srtU (cl.map norm) = ps at hfig hl hR ⊢
  refine s_for (enc := dPr) (ys := ps) ev_adr (fun _ => [(p, .lst (ps.map dPr))]) (fun pre y => [some (.adr l), some (.int n), some (dS (txtT n pre)), some (dPr y)]) (fun pre => [some (.adr l), some (.int n), some (dS (txtT n pre)), none]) (fun _ => Ls.own (j := 0) rfl) (s_okL (by unfold txtT tailT; rfl)) (fun p y => tg_name) (fun pre y post e => ?_) ?_
  · have hy := ofF (hfig y (e ▸ List.mem_append_right pre List.mem_cons_self))
    have hpl : pre.length ≤ 1000 := by rw [e, List.length_append] at hl; omega
    have htl : (txtT n pre).length = 2 + 4 * pre.length := by unfold txtT; rw [List.length_append, tailT_len]; rfl
    have en : txtT n (pre ++ [y]) = (((txtT n pre ++ [32]) ++ [48 + y.1.toNat]) ++ [45]) ++ [48 + y.2.toNat] := by
      unfold txtT
      rw [tailT_snoc]
      simp [pairT]
    rw [en]
    have i0 : ∀ {O : Own} {L : Sl}, L[3]? = some (some (dPr y)) → Ev K B O L (tOp (rIxT K) (tVar 3) (tC (.int 0))) (.dat (.int y.1.toNat)) := fun h => Ev.isD (ev_ixT (ds := [.int y.1, .int y.2]) (ev_var h) ev_int rfl) (congrArg Dt.int hy.1)
    have i1 : ∀ {O : Own} {L : Sl}, L[3]? = some (some (dPr y)) → Ev K B O L (tOp (rIxT K) (tVar 3) (tC (.int 1))) (.dat (.int y.2.toNat)) := fun h => Ev.isD (ev_ixT (ds := [.int y.1, .int y.2]) (ev_var h) ev_int rfl) (congrArg Dt.int hy.2.1)
    (walk_at "s"); refine s_asg (ev_catS (ev_catS (ev_catS (ev_catS (ev_var rfl) (ev_sc (a := [32]) rfl) ?_) (ev_strN (i0 rfl) hy.2.2.1) ?_) (ev_sc (a := [45]) rfl) ?_) (ev_strN (i1 rfl) hy.2.2.2) ?_) ?_
    any_goals (simp only [List.length_append, List.length_cons, List.length_nil, htl]; omega)
    exact s_okW (.same (.same (.same (.none .nil))))
  · (walk_at "s"); refine s_ret (ev_var rfl) ?_
    exact hR
theorem ev_lshown {B : Hp} {O : Own} {L : Sl} {ta tb : TE} {E : XK} {r : Rs} {cl : List (Int × Int)} {n : Nat} (h1 : Ev K B O L ta r) (hl : Ls K B O r (cl.map dPr)) (h2 : Ev K B O L tb (.dat (.int n))) (hp : n ≤ 6 ∧ cl.length ≤ 60 ∧ ∀ p, p ∈ cl → okP n p) : Ev K B O L (tCall (SpLshown K) [] E (tCons ta (tCons tb tNil))) (.dat (dS (txtT n (srtU (cl.map norm))))) :=
  ev_call (cl, n) (ea_cons h1 (ea_cons h2 ea_nil)) hp (.cons (.lst hl) (.cons .dat .nil))
end
end My

/-! ### greenturns/notes.py, its refusals -/
namespace GT
open PySem PySem.Spec PyProof.Rows L2
section
variable {K : Fg} {B : Hp} {O : Own} {L : Sl} {te ta tb tx : TE} {t u : TT} {D : Ends} {tu tw : TS} {g : TG} {E : XK}
/-- arguments that let an exception out -/
def RxA (K : Fg) (B : Hp) (O : Own) (L : Sl) (ta : TA) : Prop := ∀ σ H, Sat K B O L σ H → ∀ Q : List V → Hp → Prop, ta σ H Q
theorem rxa_head {tr : TA} (h : Rx K B O L te) : RxA K B O L (tCons te tr) := fun σ H s Q => h σ H s _
theorem rxa_tail {tr : TA} {r : Rs} (h : Ev K B O L te r) (k : RxA K B O L tr) : RxA K B O L (tCons te tr) := fun σ H s Q => h σ H s _ fun v H1 e1 r1 => k σ H1 (s.same e1) _
theorem rx_tup {tr : TA} (h : RxA K B O L tr) : Rx K B O L (tTup tr) := fun σ H s Q => h σ H s _
theorem rx_makeA {C : Addr} {sp : Sp} {tr : TA} (h : RxA K B O L tr) : Rx K B O L (tMake C sp [] E tr) := fun σ H s Q => h σ H s _
/-- a comprehension over a new list, an item of which raises -/
theorem rx_lcIN {α : Type} {enc : α → Dt} {ys : List α} {ok : α → Bool} {f : α → Dt} {j : Nat} {tl : TE} (h : Ev K B O L tl (.new (.lst (ys.map enc)))) (hz : ys.length ≤ 100000)
    (hr : ∀ y, y ∈ ys → ok y = false → ∀ {O : Own}, Rx K B O (L.set j (some (enc y))) te) (he : ∀ y, y ∈ ys → ok y = true → ∀ {O : Own}, Ev K B O (L.set j (some (enc y))) te (.dat (f y)))
    (bad : ∃ y, y ∈ ys ∧ ok y = false) : Rx K B O L (tLc (iList K tl) (gName j) tYes te [j]) := fun σ H s Q =>
  h σ H s _ fun v H1 e1 ⟨q, hv, hq, ho⟩ => by
    subst hv
    exact rx_lcI (enc := enc) (ys := ys) (ok := ok) (f := f) (ev_adr (a := q)) (Ls.own (j := O.length) (by simp)) hz (fun y hy hb => hr y hy hb) (fun y hy hb => he y hy hb) bad σ H1 (s.addOwn e1 hq ho) Q
theorem ev_ixS {a : List Nat} {i : Int} {c : Nat} (ha : Ev K B O L ta (.dat (.str (SX.S a)))) (hb : Ev K B O L tb (.dat (.int i))) (hz : a.length ≤ 100000) (h : atI a i = some c) : Ev K B O L (tOp rIxS ta tb) (.dat (.str (SX.S [c]))) :=
  ev_op ha hb fun σ H s x y hx hy Q q => by
    cases hx
    cases hy
    exact ⟨SX.S a, i, c, rfl, rfl, by rw [SX.S_len, sizeLine_eq]; omega, h, q _ H (.refl H) (.str _)⟩
end
end GT
namespace My
open PySem PySem.Spec PyProof.Rows L2 GT SetX RevX
theorem same_srt {n : Nat} (h1 : 1 ≤ n) (h6 : n ≤ 6) {cl : List (Int × Int)} (h : ∀ p, p ∈ cl → okP n p) : srtP (crOf n cl).ps = srtU (cl.map norm) := srtP_srtU (crOf_ok h1 h6 h).nd fun p => crOf_mem
section
variable {P : Program} {w : World} {K : Fg} {mg : Str → Option Value} {base : Heap} {a : Adr}
/-- what is refused with BadNote -/
def outO (a : Adr) {β : Type} (o : Option β) : Option Addr := match o with
  | some _ => none
  | none => some a.c_BadNote
theorem outO_some {a : Adr} {β : Type} {o : Option β} {x : β} (h : o = some x) : outO a o = none := by rw [h]; rfl
theorem outO_none {a : Adr} {β : Type} {o : Option β} (h : o = none) : outO a o = some a.c_BadNote := by rw [h]; rfl
abbrev figs : List Nat := [48, 49, 50, 51, 52, 53, 54, 55, 56, 57]
theorem mem_figs {c : Nat} : c ∈ figs ↔ 48 ≤ c ∧ c < 58 := by
  unfold figs
  simp
  omega
def SpNumX (K : Fg) (a : Adr) : Sp := SpE K (fun t : List Nat => [.dat (dS t)]) (fun t => t.length ≤ 1000) (fun t => outO a (numF t)) (fun t => .dat (.int ((numF t).getD 0 : Nat)))
theorem x_number_of (T : Txt K mg a) : Cal P w K mg base (L2.CX P w) 1 "number_of" ["word"] (SpNumX K a) := by
  refine calX_ok T.f_number_of sc_number_of (fun _ => rfl) fun f cdv A outer s B vs R E t hr hp ha hR hX => ?_
  refine ⟨_, (pss_cons (ps_if (PW.pt (pw_or (pt_cmpR op_ne (pe_callB call_len_str (by rfl) T.z_len (by decide +kernel) (pa_cons (pv 0) pa_nil)) pe_int (nomark _)) (pw_or1 (pt_cmpR op_notin_str (pv 0) (pe_globS (by rfl) T.g_FIGURES) (by with_unfolding_all rfl))))) (pss_one (ps_raise rfl (takes_of rfl rfl rfl rfl) (pmk_own PySem.F.excBase_ValueError T.x_BadNote.x T.g_BadNote T.x_BadNote.k (raises_own T.x_BadNote.b T.x_BadNote.t) rfl))) pss_nil)
  (pss_one (ps_ret (pe_m1 PySem.F.slot_str_index PySem.F.type_str_index mt_sindex (pe_globS (by rfl) T.g_FIGURES) (pv 0))))), ?_⟩
  try dsimp only [cxOf, Cx.nox, Cx.wish]
  cases ha with
  | cons h1 ha =>
  cases ha
  have hp : t.length ≤ 1000 := hp
  refine body_at (K := K) [dS t] (.cons h1 .nil) (L := [some (dS t)]) ?_
  by_cases hl : t.length = 1
  · obtain ⟨c, rfl⟩ := List.length_eq_one_iff.mp hl
    by_cases hc : c ∈ figs
    · have hc' := mem_figs.mp hc
      obtain ⟨d, rfl⟩ : ∃ d, c = 48 + d := ⟨c - 48, by omega⟩
      have hd : d < 10 := by omega
      (walk_at "s"); refine s_if (b := !decide (((1 : Nat) : Int) = 1) || !decide (48 + d ∈ figs)) (et_or (et_test (ev_neI (ev_lenS2 (a := [48 + d]) (ev_var rfl) (show 1 ≤ 100000 by decide)) ev_int)) fun _ => et_test (ev_notInS1 (ev_var rfl) (ev_sc (a := figs) rfl))) (fun h => ?_) (fun _ => s_end ?_)
      · rw [decide_eq_true hc] at h
        exact absurd h (by decide)
      · (walk_at "s"); refine s_ret (ev_indexS (ev_sc (a := figs) rfl) (ev_var rfl) (fig_at d hd)) ?_
        have hR := hR (outO_some (numF_of hd))
        rw [numF_of hd] at hR
        exact hR
    · (walk_at "s"); refine s_if (b := !decide (((1 : Nat) : Int) = 1) || !decide (c ∈ figs)) (et_or (et_test (ev_neI (ev_lenS2 (a := [c]) (ev_var rfl) (show 1 ≤ 100000 by decide)) ev_int)) fun _ => et_test (ev_notInS1 (ev_var rfl) (ev_sc (a := figs) rfl))) (fun _ => ?_) (fun h => ?_)
      · refine s_raise (E := E) (C := a.c_BadNote) (hX _ (outO_none ?_))
        show (if 48 ≤ c ∧ c < 58 then some (c - 48) else none) = none
        rw [if_neg fun z => hc (mem_figs.mpr z)]
      · rw [decide_eq_false hc] at h
        exact absurd h (by decide)
  · (walk_at "s"); refine s_if (b := !decide ((t.length : Int) = 1) || true) (et_or (et_test (ev_neI (ev_lenS2 (a := t) (ev_var rfl) (by omega)) ev_int)) fun z => absurd z (by simp; omega)) (fun _ => ?_) (fun h => ?_)
    · refine s_raise (E := E) (C := a.c_BadNote) (hX _ (outO_none ?_))
      unfold numF
      split
      · exact absurd rfl hl
      · rfl
    · rw [Bool.or_true] at h
      cases h
theorem ev_numX {B : Hp} {O : Own} {L : Sl} {ta : TE} {E : XK} {t : List Nat} {d : Nat} (h : Ev K B O L ta (.dat (dS t))) (hl : t.length ≤ 1000) (e : numF t = some d) : Ev K B O L (tCall (SpNumX K a) [] E (tCons ta tNil)) (.dat (.int d)) := by
  have z := ev_callE (K := K) (B := B) (O := O) (L := L) (E := E) (as := fun t : List Nat => [As.dat (dS t)]) (pre := fun t => t.length ≤ 1000) (out := fun t => outO a (numF t)) (res := fun t => .dat (.int ((numF t).getD 0 : Nat))) t (ea_cons h ea_nil) hl (outO_some e) (.cons .dat .nil)
  rw [e] at z
  exact z
theorem rx_numX {B : Hp} {O : Own} {L : Sl} {ta : TE} {E : XK} {t : List Nat} (h : Ev K B O L ta (.dat (dS t))) (hl : t.length ≤ 1000) (e : numF t = none) (hE : ∀ H', Same B H' → E (.ref a.c_BadNote) none H') : Rx K B O L (tCall (SpNumX K a) [] E (tCons ta tNil)) :=
  rx_call t (ea_cons h ea_nil) hl (outO_none e) (.cons .dat .nil) hE
def SpPairX (K : Fg) (a : Adr) : Sp := SpE K (fun t : List Nat => [.dat (dS t)]) (fun t => t.length ≤ 500) (fun t => outO a (pairF t)) (fun t => .dat (dPr ((pairF t).getD (0, 0))))
theorem x_pair_of (T : Txt K mg a) : Cal P w K mg base (L2.CX P w) 2 "pair_of" ["word"] (SpPairX K a) := by
  refine calX_ok T.f_pair_of sc_pair_of (fun _ => rfl) fun f cdv A outer s B vs R E t hr hp ha hR hX => ?_
  refine ⟨_, (pss_cons (ps_set (i := 1) sc_pair_of.nd rfl (Or.inl rfl) (pe_split (pv 0) pe_str))
  (pss_cons (ps_if (pt_cmpR op_ne (pe_callB (r := fun xs H Q => ∃ p ys, xs = [V.ref p] ∧ (SqL K H p ys ∨ SqT K H p ys) ∧ Q (V.int ys.length) H) call_len_seq (by rfl) T.z_len (by decide +kernel) (pa_cons (pv 1) pa_nil)) pe_int (nomark _)) (pss_one (ps_raise rfl (takes_of rfl rfl rfl rfl) (pmk_own PySem.F.excBase_ValueError T.x_BadNote.x T.g_BadNote T.x_BadNote.k (raises_own T.x_BadNote.b T.x_BadNote.t) rfl))) pss_nil)
  (pss_one (ps_ret (pe_tup (pa_cons (Cal.pe (x_number_of T) hr passOwn (pa_cons (pe_ix (r := rIxL K) ix_list (pv 1) pe_int (fun _ _ => rfl)) pa_nil)) (pa_cons (Cal.pe (x_number_of T) hr passOwn (pa_cons (pe_ix (r := rIxL K) ix_list (pv 1) pe_int (fun _ _ => rfl)) pa_nil)) pa_nil))))))), ?_⟩
  try dsimp only [cxOf, Cx.nox, Cx.wish]
  cases ha with
  | cons h1 ha =>
  cases ha
  have hp : t.length ≤ 500 := hp
  have h1 : Tp K B _ (dS t) := h1
  refine body_at (K := K) [dS t] (.cons h1 .nil) (L := [some (dS t), none]) ?_
  have hel := spl_el 45 t []
  have hlen := spl_len 45 t []
  (walk_at "s"); refine s_asgN (ob := .lst ((TL.spl [45] 0 [] t).map dS)) (ev_splitS (ev_var rfl) (ev_sc (a := [45]) rfl) (by decide) (by omega)) fun q => ?_
  (walk_at "s"); refine s_if (b := !decide (((TL.spl [45] 0 [] t).length : Int) = 2)) (et_test (ev_neI (Ev.isD (ev_lenL (ev_var rfl) (Ls.own (j := 0) rfl)) (by rw [List.length_map])) ev_int)) (fun h => ?_) (fun h => s_end ?_)
  · refine s_raise (E := E) (C := a.c_BadNote) (hX _ (outO_none (pairF_len fun z => ?_)))
    rw [z] at h
    exact absurd h (by decide)
  · have h2 : (TL.spl [45] 0 [] t).length = 2 := by
      simp at h
      omega
    have pf := @pairF_two t
    obtain ⟨x, y, e⟩ : ∃ x y, TL.spl [45] 0 [] t = [x, y] := by
      match hs : TL.spl [45] 0 [] t, h2 with
      | [x, y], _ => exact ⟨x, y, rfl⟩
    have pf := pf e
    rw [e] at hel ⊢
    have hx : x.length ≤ 1000 := by
      have := hel x (by simp)
      simp at this
      omega
    have hy : y.length ≤ 1000 := by
      have := hel y (by simp)
      simp at this
      omega
    have e0 : ∀ {L : Sl}, L[1]? = some (some (.adr q)) → Ev K B [(q, Ob.lst ([x, y].map dS))] L (tOp (rIxL K) (tVar 1) (tC (.int 0))) (.dat (dS x)) := fun h => ev_ixL (ev_var h) (Ls.own (j := 0) rfl) ev_int rfl
    have e1 : ∀ {L : Sl}, L[1]? = some (some (.adr q)) → Ev K B [(q, Ob.lst ([x, y].map dS))] L (tOp (rIxL K) (tVar 1) (tC (.int 1))) (.dat (dS y)) := fun h => ev_ixL (ev_var h) (Ls.own (j := 0) rfl) ev_int rfl
    cases ex : numF x with
    | none =>
      rw [ex] at pf
      (walk_at "s"); exact s_rxR (rx_tup (rxa_head (rx_numX (e0 rfl) hx ex (hX _ (outO_none pf)))))
    | some i =>
      rw [ex] at pf
      cases ey : numF y with
      | none =>
        rw [ey] at pf
        (walk_at "s"); exact s_rxR (rx_tup (rxa_tail (ev_numX (e0 rfl) hx ex) (rxa_head (rx_numX (e1 rfl) hy ey (hX _ (outO_none pf))))))
      | some j =>
        rw [ey] at pf
        have hR := hR (outO_some pf)
        rw [pf] at hR
        (walk_at "s"); exact s_ret (r := .dat (dPr ((i : Int), (j : Int)))) (ev_tup (ed_cons (ev_numX (e0 rfl) hx ex) (ed_cons (ev_numX (e1 rfl) hy ey) ed_nil))) hR
theorem ev_pairX {B : Hp} {O : Own} {L : Sl} {ta : TE} {E : XK} {t : List Nat} {p : Int × Int} (h : Ev K B O L ta (.dat (dS t))) (hl : t.length ≤ 500) (e : pairF t = some p) : Ev K B O L (tCall (SpPairX K a) [] E (tCons ta tNil)) (.dat (dPr p)) := by
  have z := ev_callE (K := K) (B := B) (O := O) (L := L) (E := E) (as := fun t : List Nat => [As.dat (dS t)]) (pre := fun t => t.length ≤ 500) (out := fun t => outO a (pairF t)) (res := fun t => .dat (dPr ((pairF t).getD (0, 0)))) t (ea_cons h ea_nil) hl (outO_some e) (.cons .dat .nil)
  rw [e] at z
  exact z
theorem rx_pairX {B : Hp} {O : Own} {L : Sl} {ta : TE} {E : XK} {t : List Nat} (h : Ev K B O L ta (.dat (dS t))) (hl : t.length ≤ 500) (e : pairF t = none) (hE : ∀ H', Same B H' → E (.ref a.c_BadNote) none H') : Rx K B O L (tCall (SpPairX K a) [] E (tCons ta tNil)) :=
  rx_call t (ea_cons h ea_nil) hl (outO_none e) (.cons .dat .nil) hE
theorem norm_id {p : Int × Int} (h : p.1 < p.2) : norm p = p := by
  unfold norm mnI mxI
  rw [if_neg (by omega), if_pos (by omega)]
theorem norm_ids : ∀ {ps : List (Int × Int)}, (∀ p, p ∈ ps → p.1 < p.2) → ps.map norm = ps
  | [], _ => rfl
  | p :: ps, h => by rw [List.map_cons, norm_id (h p List.mem_cons_self), norm_ids fun q hq => h q (List.mem_cons_of_mem _ hq)]
theorem srtU_self {ps : List (Int × Int)} : srtU (srtU ps) = srtU ps := (srtU_of (ys := srtU ps) (ps := srtU ps) (fun _ => Iff.rfl) (srtU_nodup ps) (srt_srtd lexB_swo _)).symm
theorem pairsF_of : ∀ {ps : List (Int × Int)}, (∀ p, p ∈ ps → okF p) → (ps.map pairT).map (fun v => (pairF v).getD (0, 0)) = ps
  | [], _ => rfl
  | p :: ps, h => by
    rw [List.map_cons, List.map_cons, pairF_of (h p List.mem_cons_self), pairsF_of fun q hq => h q (List.mem_cons_of_mem _ hq)]
    rfl
theorem outNew_ok {a : Adr} {n : Nat} {cl : List (Int × Int)} (h1 : 1 ≤ n) (h6 : n ≤ 6) (h : ∀ p, p ∈ cl → okP n p) : outNew a ((n : Int), cl) = none := by
  unfold outNew
  rw [if_neg (by dsimp only; omega), if_pos]
  refine List.all_eq_true.mpr fun p hp => ?_
  have := h p hp
  unfold okP at this
  unfold okI
  exact decide_eq_true this
theorem outNew_inv {a : Adr} {n : Nat} {cl : List (Int × Int)} (h : outNew a ((n : Int), cl) = none) : 1 ≤ n ∧ n ≤ 6 ∧ ∀ p, p ∈ cl → okP n p := by
  unfold outNew at h
  split at h
  · cases h
  · rename_i z
    dsimp only at z
    split at h
    · rename_i k
      refine ⟨by omega, by omega, fun p hp => ?_⟩
      have := List.all_eq_true.mp k p hp
      unfold okI at this
      have this := of_decide_eq_true this
      unfold okP
      exact this
    · cases h
theorem outNew_some {a : Adr} {x : Int × List (Int × Int)} {C : Addr} (h : outNew a x = some C) : C = a.c_BadSize ∨ C = a.c_BadClash := by
  unfold outNew at h
  split at h
  · cases h
    exact .inl rfl
  · split at h
    · cases h
    · cases h
      exact .inr rfl
/-- the crossing of a text -/
def crT (x : Option (Nat × List (Int × Int))) : Cr := match x with
  | some x => crOf x.1 x.2
  | none => crOf 0 []
noncomputable def SpReadX (K : Fg) (a : Adr) : Sp := SpE K (fun t : List Nat => [.dat (dS t)]) (fun t => t.length ≤ 200) (fun t => outO a (dueT t)) (fun t => .obj (crM a.c_Crossing (crT (dueT t))))
theorem exm_no (T : Txt K mg a) : PySem.W.exmOne K (.ref a.c_BadNote) (.ref a.c_BadSize) = some false ∧ PySem.W.exmOne K (.ref a.c_BadNote) (.ref a.c_BadClash) = some false ∧ PySem.W.exmOne K (.ref a.c_BadSize) (.ref a.c_BadSize) = some true ∧ PySem.W.exmOne K (.ref a.c_BadClash) (.ref a.c_BadSize) = some false ∧ PySem.W.exmOne K (.ref a.c_BadClash) (.ref a.c_BadClash) = some true :=
  ⟨PySem.W.exm_ref T.x_BadSize.b T.hd_BadSize T.x_BadSize.t T.s_BadNote_BadSize, PySem.W.exm_ref T.x_BadClash.b T.hd_BadClash T.x_BadClash.t T.s_BadNote_BadClash, PySem.W.exm_ref T.x_BadSize.b T.hd_BadSize T.x_BadSize.t T.s_BadSize_BadSize, PySem.W.exm_ref T.x_BadSize.b T.hd_BadSize T.x_BadSize.t T.s_BadClash_BadSize, PySem.W.exm_ref T.x_BadClash.b T.hd_BadClash T.x_BadClash.t T.s_BadClash_BadClash⟩
theorem x_read (T : Txt K mg a) : Cal P w K mg base (L2.CX P w) 3 "read" ["text"] (SpReadX K a) := by
  refine calX_ok T.f_read sc_read (fun _ => rfl) fun f cdv A outer s B0 vs R E t hr hp ha hR0 hX => ?_
  refine ⟨_, (pss_cons (ps_set (i := 1) sc_read.nd rfl (Or.inl rfl) (pe_split (pv 0) pe_str))
  (pss_cons (ps_if (pt_cmpR op_ne (pe_slice sl_str (pe_ix (r := rIxL K) ix_list (pv 1) pe_int (fun _ _ => rfl)) (po_some pe_int) po_none) pe_str (nomark _)) (pss_one (ps_raise rfl (takes_of rfl rfl rfl rfl) (pmk_own PySem.F.excBase_ValueError T.x_BadNote.x T.g_BadNote T.x_BadNote.k (raises_own T.x_BadNote.b T.x_BadNote.t) rfl))) pss_nil)
  (pss_cons (TryX.ps_try_manyE (E := E) rfl rfl (L2H.passesAt_of rfl) (takes_of rfl rfl rfl rfl) (fun pn xe tkN tk pw =>
    (pss_one (ps_set (i := 2) sc_read.nd rfl (Or.inl rfl) (CalI.pe (x_Crossing___init__ T) T.g_Crossing hr (L2N.passes_call tkN fun _ _ _ _ h => h) (pa_cons (Cal.pe (x_number_of T) hr (passes_call tk fun _ _ _ _ h => h) (pa_cons (pe_slice sl_str (pe_ix (r := rIxL K) ix_list (pv 1) pe_int (fun _ _ => rfl)) po_none (po_some pe_int)) pa_nil)) (pa_cons (CompX.pe_lcX (X := Cx.tr _ pn xe) (own := [("word", 3)]) (g := gName 3) (tt := tYes) rfl rfl tk rfl sc_read.nd (TryX.pi_listK (K := K) rfl (pe_slice (r := rSlL K) sl_list (pv 1) (po_some pe_int) po_none)) (blkOk_by (own := [("word", 3)]) (N := n_read) (sc := defScope s_read) (by decide +kernel)) (fun _ _ _ _ _ _ pq => pg_name (i := 3) sc_read.nd rfl (Or.inl rfl)) (fun _ _ _ _ _ _ pq => pts_nil) (fun _ _ _ _ _ _ pq => (Cal.pe (x_pair_of T) hr pq (pa_cons (pv 3) pa_nil)))) pa_nil))))))
    (.cons (c := .ref a.c_BadSize) (ws := fun _ _ _ H => E (.ref a.c_BadNote) none H) ⟨rfl, by decide, .inl T.g_BadSize⟩ (fun aE oe cls d pn hz hf tk hot => pss_one (L2H.ps_raiseH hot tk (L2N.pmk_own PySem.F.excBase_ValueError T.x_BadNote.x T.g_BadNote T.x_BadNote.k (raises_own T.x_BadNote.b T.x_BadNote.t) rfl))) (fun _ _ _ _ _ _ h => h)
    (.cons (c := .ref a.c_BadClash) (ws := fun _ _ _ H => E (.ref a.c_BadNote) none H) ⟨rfl, by decide, .inl T.g_BadClash⟩ (fun aE oe cls d pn hz hf tk hot => pss_one (L2H.ps_raiseH hot tk (L2N.pmk_own PySem.F.excBase_ValueError T.x_BadNote.x T.g_BadNote T.x_BadNote.k (raises_own T.x_BadNote.b T.x_BadNote.t) rfl))) (fun _ _ _ _ _ _ h => h)
    .nil)))
  (pss_cons (ps_if (pt_cmpR op_ne (Cal.pe (c_shown T) hr pass0 (pa_cons (pv 2) pa_nil)) (pv 0) (nomark _)) (pss_one (ps_raise rfl (takes_of rfl rfl rfl rfl) (pmk_own PySem.F.excBase_ValueError T.x_BadNote.x T.g_BadNote T.x_BadNote.k (raises_own T.x_BadNote.b T.x_BadNote.t) rfl))) pss_nil)
  (pss_one (ps_ret (pv 2))))))), ?_⟩
  try dsimp only [cxOf, Cx.nox, Cx.wish]
  cases ha with
  | cons h1 ha =>
  cases ha
  have hp : t.length ≤ 200 := hp
  have h1 : Tp K B0 _ (dS t) := h1
  obtain ⟨w0, ws, hs⟩ := spl_ne 32 t []
  obtain ⟨hw0, hwn, hws⟩ := words_len hs hp
  have hN : (∀ n ps, Wr t (n, ps) → w0 = [48 + n, 58] → ws = ps.map pairT → False) → dueT t = none := fun k => by
    cases e : dueT t with
    | none => rfl
    | some x =>
      have wr := dueT_some e
      have z := hs.symm.trans wr.split
      injection z with z1 z2
      exact (k x.1 x.2 wr z1 z2).elim
  have hB : dueT t = none → ∀ H', Same B0 H' → E (.ref a.c_BadNote) none H' := fun e => hX _ (outO_none e)
  refine body_at (K := K) [dS t] (.cons h1 .nil) (L := [some (dS t), none, none, none]) ?_
  (walk_at "s"); refine s_asgN (ob := .lst ((w0 :: ws).map dS)) (Ev.isL (ev_splitS (ev_var rfl) (ev_sc (a := [32]) rfl) (by decide) (by omega)) (by rw [hs])) fun q => ?_
  have ew0 : ∀ {L : Sl}, L[1]? = some (some (.adr q)) → Ev K B0 [(q, Ob.lst ((w0 :: ws).map dS))] L (tOp (rIxL K) (tVar 1) (tC (.int 0))) (.dat (dS w0)) := fun h => ev_ixL (ev_var h) (Ls.own (j := 0) rfl) ev_int (atI_nat' (enc := dS) (xs := w0 :: ws) (k := 0) rfl)
  (walk_at "s"); refine s_if (b := !decide (SX.S (w0.drop 1) = SX.S [58])) (et_test (ev_neS (ev_fromS (k := 1) (ew0 rfl) (by decide) (by omega) ev_int) (ev_sc (a := [58]) rfl))) (fun h => ?_) (fun h => s_end ?_)
  · refine s_raise (E := E) (C := a.c_BadNote) (hB (hN fun n ps wr e1 e2 => ?_))
    rw [e1] at h
    simp at h
  rw [eqS] at h
  have hd : w0.drop 1 = [58] := by simpa using h
  obtain ⟨c, rfl⟩ : ∃ c, w0 = [c, 58] := by
    cases w0 with
    | nil => cases hd
    | cons c r => exact ⟨c, by rw [← hd]; rfl⟩
  have hinner : ∀ {L : Sl}, L[1]? = some (some (.adr q)) → Ev K B0 [(q, Ob.lst (([c, 58] :: ws).map dS))] L (tSl (rSlL K) (tVar 1) (tPart (tC (.int 1))) tNoPart) (.new (.lst (ws.map dS))) := fun h => Ev.isL (ev_slL (ev_var h) (Ls.own (j := 0) rfl) (eo_some ev_int) eo_none) (by rw [cutD_dropG (by decide)]; rfl)
  have ec : ∀ {L : Sl}, L[1]? = some (some (.adr q)) → Ev K B0 [(q, Ob.lst (([c, 58] :: ws).map dS))] L (tSl rSlS (tOp (rIxL K) (tVar 1) (tC (.int 0))) tNoPart (tPart (tC (.int 1)))) (.dat (dS [c])) := fun h => Ev.isD (ev_toS (k := 1) (ew0 h) (by decide) (by omega) ev_int) rfl
  obtain ⟨x1, x2, x3, x4, x5⟩ := exm_no T
  (walk_at "s")
  cases en : numF [c] with
  | none =>
    have hd : dueT t = none := hN fun n ps wr e1 e2 => by
      injection e1 with e1 _
      have := wr.n6
      rw [e1, numF_of (by dsimp only at this; omega)] at en
      cases en
    exact s_rxA (rx_makeA (rxa_head (rx_numX (ec rfl) (by simp) en fun H' e => TryX.Meet.miss x1 (TryX.Meet.miss x2 (TryX.Meet.out (hB hd H' e))))))
  | some d =>
    have hcd := numF_some en
    obtain ⟨hcd, hd10⟩ := hcd
    injection hcd with hcd _
    subst hcd
    by_cases hall : ∀ v, v ∈ ws → (pairF v).isSome = true
    · have hlc : ∀ {L : Sl} {E' : XK}, L[1]? = some (some (.adr q)) → L.length = 4 → Ev K B0 [(q, Ob.lst (([48 + d, 58] :: ws).map dS))] L (tLc (iList K (tSl (rSlL K) (tVar 1) (tPart (tC (.int 1))) tNoPart)) (gName 3) tYes (tCall (SpPairX K a) [] E' (tCons (tVar 3) tNil)) [3]) (.new (.lst ((ws.map fun v => (pairF v).getD (0, 0)).map dPr))) := fun {L E'} h hl =>
        Ev.isL (ev_lcNew (enc := dS) (ys := ws) (p := fun _ => true) (f := fun v => dPr ((pairF v).getD (0, 0))) (hinner h) (by omega) (fun _ _ => et_yes) (fun v hv _ => by
          have hsome := hall v hv
          cases ev : pairF v with
          | none => rw [ev] at hsome; cases hsome
          | some p => exact ev_pairX (ev_var (by simp [hl])) (by have := hws v hv; omega) ev)) (by rw [filter_true, List.map_map]; rfl)
      have hcll : (ws.map fun v => (pairF v).getD (0, 0)).length ≤ 1000 := by rw [List.length_map]; omega
      have hdue : ∀ n ps, Wr t (n, ps) → [48 + d, 58] = [48 + n, 58] → ws = ps.map pairT → d = n ∧ (ws.map fun v => (pairF v).getD (0, 0)) = ps := fun n ps wr e1 e2 => by
        injection e1 with e1 _
        exact ⟨by omega, by rw [e2]; exact pairsF_of wr.fig⟩
      generalize (ws.map fun v => (pairF v).getD (0, 0)) = cl at hlc hcll hdue
      have okWr : ∀ {n ps}, Wr t (n, ps) → ∀ p, p ∈ ps → okP n p := fun {n ps} wr p hp => by
        have := wr.ok p hp
        dsimp only at this
        unfold okP
        omega
      cases ho : outNew a ((d : Int), cl) with
      | some C =>
        have hd : dueT t = none := hN fun n ps wr e1 e2 => by
          obtain ⟨k1, k2⟩ := hdue n ps wr e1 e2
          subst k1 k2
          rw [outNew_ok wr.n1 wr.n6 (okWr wr)] at ho
          cases ho
        refine s_rxA (rx_make ((d : Int), cl) (ea_cons (ev_numX (ec rfl) (by simp) en) (ea_cons (hlc rfl rfl) ea_nil)) hcll ho (.cons .dat (.cons (.lst Ls.new) .nil)) fun H' e => ?_)
        rcases outNew_some ho with rfl | rfl
        · exact TryX.Meet.hit trivial x3 fun _ _ => hB hd H' e
        · exact TryX.Meet.miss x4 (TryX.Meet.hit trivial x5 fun _ _ => hB hd H' e)
      | none =>
        obtain ⟨d1, d6, hcok⟩ := outNew_inv ho
        refine s_asgObj (ev_makeE ((d : Int), cl) (ea_cons (ev_numX (ec rfl) (by simp) en) (ea_cons (hlc rfl rfl) ea_nil)) hcll ho (.cons .dat (.cons (.lst Ls.new) .nil))) rfl fun B b e hc => ?_
        have hR := hR0
        have hc : CrAt a.c_Crossing B b (crOf d cl) := hc
        have hcr := crOf_ok d1 d6 hcok
        have hpl : (crOf d cl).ps.length ≤ 1000 := by
          have := foldl_addP_len (cl.map norm) []
          rw [List.length_map] at this
          show ((cl.map norm).foldl addP []).length ≤ 1000
          simp at this
          omega
        have hso := same_srt d1 d6 hcok
        (walk_at "s"); refine s_if (b := !decide (SX.S (txtT d (srtU (cl.map norm))) = SX.S t)) (et_test (ev_neS (Ev.isD (ev_shown hc (ev_var rfl) ⟨hcr, hpl⟩) (by rw [hso]; rfl)) (ev_var rfl))) (fun h => ?_) (fun h => s_end ?_)
        · refine s_raise (E := E) (C := a.c_BadNote) fun H' e' => hB (hN fun n ps wr e1 e2 => ?_) H' (e.trans e')
          obtain ⟨k1, k2⟩ := hdue n ps wr e1 e2
          subst k1 k2
          have hsrt := wr.srt
          dsimp only at hsrt
          rw [eqS, norm_ids fun p hp => (wr.ok p hp).2.1, ← hsrt] at h
          have := wr.eq
          dsimp only at this
          simp [← this] at h
        · rw [eqS] at h
          have ht : txtT d (srtU (cl.map norm)) = t := by simpa using h
          have wr : Wr t (d, srtU (cl.map norm)) := ⟨d1, d6, fun p hp => by
            obtain ⟨p', hp', rfl⟩ := List.mem_map.mp (srtU_mem.mp hp)
            exact norm_ok (hcok p' hp'), srtU_self.symm, ht.symm⟩
          have hdu := dueT_eq wr
          have hcl : cl = srtU (cl.map norm) := by
            have z := hs.symm.trans wr.split
            injection z with z1 z2
            exact (hdue _ _ wr z1 z2).2
          have hR := (hR (outO_some hdu)).ground e
          rw [hdu] at hR
          (walk_at "s"); refine s_retObj (φ := crM a.c_Crossing (crOf d cl)) (ev_var rfl) hc ?_
          have : crT (some (d, srtU (cl.map norm))) = crOf d cl := by
            show crOf d (srtU (cl.map norm)) = crOf d cl
            rw [← hcl]
          rw [this] at hR
          exact hR
    · obtain ⟨v, hv, hvn⟩ : ∃ v, v ∈ ws ∧ (pairF v).isSome = false := by
        refine Classical.byContradiction fun z => hall fun v hv => ?_
        cases e : (pairF v).isSome with
        | true => rfl
        | false => exact (z ⟨v, hv, e⟩).elim
      have hd : dueT t = none := hN fun n ps wr e1 e2 => by
        rw [e2] at hv
        obtain ⟨p, hp, rfl⟩ := List.mem_map.mp hv
        rw [pairF_of (wr.fig p hp)] at hvn
        cases hvn
      refine s_rxA (rx_makeA (rxa_tail (ev_numX (ec rfl) (by simp) en) (rxa_head (rx_lcIN (enc := dS) (ys := ws) (ok := fun v => (pairF v).isSome) (f := fun v => dPr ((pairF v).getD (0, 0))) (hinner rfl) (by omega) (fun y hy hb {O} => ?_) (fun y hy hb {O} => ?_) ⟨v, hv, hvn⟩))))
      · refine rx_pairX (ev_var rfl) (by have := hws y hy; omega) ?_ fun H' e => TryX.Meet.miss x1 (TryX.Meet.miss x2 (TryX.Meet.out (hB hd H' e)))
        cases e : pairF y with
        | none => rfl
        | some p => rw [e] at hb; cases hb
      · cases e : pairF y with
        | none => rw [e] at hb; cases hb
        | some p => exact ev_pairX (ev_var rfl) (by have := hws y hy; omega) e
end
end My

/-! ### k10: the texts that are read, and what they write -/
namespace My
open PySem PySem.Spec PyProof.Rows L2 GT SetX RevX
section
variable {P : Program} {w : World} {K : Fg} {mg : Str → Option Value} {base : Heap} {a : Adr}
/-- a text of at most 200 signs -/
def TxtV (K : Fg) (H : Hp) (v : V) : Prop := ∃ t : List Nat, Tp K H v (dS t) ∧ t.length ≤ 200
theorem TxtV.of {H : Hp} {v : V} {t : List Nat} (h : Tp K H v (dS t)) (hl : t.length ≤ 200) : TxtV K H v := ⟨t, h, hl⟩
def odds1 : List Dt := [.str "", .str ":", .str "3", .str "3: ", .str "0:", .str "7:", .str "7: 0-1", .str "3:0-1", .str "3: 1-0", .str "3: 0-0", .str "3: 0-3", .str "3: 0-1-2"]
def odds2 : List Dt := [.str "03: 0-1", .str "3 : 0-1", .str "3:  0-1", .str "3: 0 - 1", .str "3: -1", .str "3: 0-"]
theorem odds_str : ∀ d, d ∈ odds1 ++ odds2 → ∃ z : Str, d = .str z ∧ z.cps.toList.length ≤ 200 := by
  intro d hd
  unfold odds1 odds2 at hd
  simp only [List.cons_append, List.nil_append, List.mem_cons, List.not_mem_nil, or_false] at hd
  rcases hd with rfl | rfl | rfl | rfl | rfl | rfl | rfl | rfl | rfl | rfl | rfl | rfl | rfl | rfl | rfl | rfl | rfl | rfl <;> exact ⟨_, rfl, by decide +kernel⟩
def SpOdd (K : Fg) : Sp := SpM K (fun c : Int => [.dat (.int c)]) (fun _ => True) (fun _ => TxtV K)
theorem c__law_odd (T : Txt K mg a) : Cal P w K mg base CX0 1 "_law_odd" ["cell"] (SpOdd K) := by
  obtain ⟨f, fd, F, g, b⟩ := T.f__law_odd
  refine ⟨f, fd, F.ok sc__law_odd (fun vs H Q E ⟨y, _, h, _⟩ => h.length.trans rfl) fun cdv A outer s B vs R E hr hsp => ?_, g, F.kp, b⟩
  obtain ⟨c, _, ha, hR⟩ := hsp
  dsimp only at ha hR
  refine ⟨_, (pss_cons (ps_set (i := 1) sc__law_odd.nd rfl (Or.inl rfl) (pe_lst (pa_cons pe_str (pa_cons pe_str (pa_cons pe_str (pa_cons pe_str (pa_cons pe_str (pa_cons pe_str (pa_cons pe_str (pa_cons pe_str (pa_cons pe_str (pa_cons pe_str (pa_cons pe_str (pa_cons pe_str pa_nil))))))))))))))
  (pss_cons (ps_set (i := 1) sc__law_odd.nd rfl (Or.inl rfl) (pe_op op_cat (pv 1) (pe_lst (pa_cons pe_str (pa_cons pe_str (pa_cons pe_str (pa_cons pe_str (pa_cons pe_str (pa_cons pe_str pa_nil)))))))))
  (pss_one (ps_ret (pe_ix (r := rIxL K) ix_list (pv 1) (pe_op op_mod (pv 0) pe_int) (fun _ _ => rfl)))))), ?_⟩
  try dsimp only [cxOf, Cx.nox, Cx.wish]
  cases ha with
  | cons h1 ha =>
  cases ha
  refine body_at (K := K) [.int c] (.cons h1 .nil) (L := [some (.int c), none]) ?_
  have p18 : (0 : Int) < 18 := by decide
  have m1 := Int.emod_nonneg c (show (18 : Int) ≠ 0 by decide)
  have m2 := Int.emod_lt_of_pos c p18
  (walk_at "s"); refine s_asgN (ob := .lst odds1) (ev_lst (ed_cons ev_str (ed_cons ev_str (ed_cons ev_str (ed_cons ev_str (ed_cons ev_str (ed_cons ev_str (ed_cons ev_str (ed_cons ev_str (ed_cons ev_str (ed_cons ev_str (ed_cons ev_str (ed_cons ev_str ed_nil))))))))))))) fun p => ?_
  (walk_at "s"); refine s_asgN (ob := .lst (odds1 ++ odds2)) (ev_cat (ds := odds1) (es := odds2) (ev_var rfl) (Lm.own (j := 0) rfl) (ev_lst (ed_cons ev_str (ed_cons ev_str (ed_cons ev_str (ed_cons ev_str (ed_cons ev_str (ed_cons ev_str ed_nil))))))) Lm.new (by decide)) fun q => ?_
  obtain ⟨k, hk, hk2⟩ : ∃ k : Nat, (k : Int) = c % 18 ∧ k < 18 := ⟨(c % 18).toNat, by omega, by omega⟩
  have hlen : (odds1 ++ odds2).length = 18 := rfl
  have hat : atI (odds1 ++ odds2) (c % 18) = some ((odds1 ++ odds2)[k]'(by rw [hlen]; exact hk2)) := by
    unfold atI
    rw [← hk, ixN_nat (by rw [hlen]; exact hk2)]
    exact List.getElem?_eq_getElem _
  obtain ⟨z, hz, hzl⟩ := odds_str _ (List.getElem_mem (l := odds1 ++ odds2) (n := k) (by rw [hlen]; exact hk2))
  (walk_at "s"); refine s_retW (ev_ixL (ev_var rfl) (Ls.own (j := 1) rfl) (ev_rI (ev_var rfl) ev_int p18 fun _ => .int _) hat) (fun σ H v s r => ?_) hR
  rw [hz, ← SX.S_tl z] at r
  exact .of r hzl
theorem ev_odd {B : Hp} {O : Own} {L : Sl} {ta : TE} {E : XK} {c : Int} (h : Ev K B O L ta (.dat (.int c))) : EvM K B O L (tCall (SpOdd K) [] E (tCons ta tNil)) (TxtV K) :=
  ev_callM c (ea_cons h ea_nil) trivial (.cons .dat .nil)
abbrev f6 : List Nat := [48, 49, 50, 51, 52, 53]
abbrev s6 : List Nat := [49, 50, 51, 52, 53, 54]
abbrev f7 : List Nat := [48, 49, 50, 51, 52, 53, 54]
theorem mem_f6 {c : Nat} : c ∈ f6 ↔ 48 ≤ c ∧ c < 54 := by
  unfold f6
  simp
  omega
theorem mem_s6 {c : Nat} : c ∈ s6 ↔ 49 ≤ c ∧ c < 55 := by
  unfold s6
  simp
  omega
theorem at_f7 : ∀ d : Nat, d < 7 → Builtin.Str.occurrences (SX.S f7) (SX.S [48 + d]) 0 (SX.S f7).length 1 = [d] := by decide +kernel
theorem at_f6 : ∀ d : Nat, d < 6 → Builtin.Str.occurrences (SX.S f6) (SX.S [48 + d]) 0 (SX.S f6).length 1 = [d] := by decide +kernel
/-- a word that writes a clash, as the law tells it -/
def pairG (v : List Nat) : Option (Int × Int) := match v with
  | [x, y, z] => if y = 45 ∧ x ∈ f6 ∧ z ∈ f6 then some (((x - 48 : Nat) : Int), ((z - 48 : Nat) : Int)) else none
  | _ => none
theorem pairG_some {v : List Nat} {p : Int × Int} (h : pairG v = some p) : v = pairT p ∧ (0 ≤ p.1 ∧ p.1 < 6) ∧ 0 ≤ p.2 ∧ p.2 < 6 := by
  unfold pairG at h
  split at h
  · rename_i x y z
    split at h
    · rename_i k
      obtain ⟨k1, k2, k3⟩ := k
      cases h
      have k2 := mem_f6.mp k2
      have k3 := mem_f6.mp k3
      refine ⟨?_, ⟨by dsimp only; omega, by dsimp only; omega⟩, by dsimp only; omega, by dsimp only; omega⟩
      unfold pairT
      dsimp only
      rw [k1, Int.toNat_natCast, Int.toNat_natCast, show 48 + (x - 48) = x by omega, show 48 + (z - 48) = z by omega]
    · cases h
  · cases h
theorem pairG_of {p : Int × Int} (h1 : 0 ≤ p.1 ∧ p.1 < 6) (h2 : 0 ≤ p.2 ∧ p.2 < 6) : pairG (pairT p) = some p := by
  show (if 45 = 45 ∧ 48 + p.1.toNat ∈ f6 ∧ 48 + p.2.toNat ∈ f6 then some (((48 + p.1.toNat - 48 : Nat) : Int), ((48 + p.2.toNat - 48 : Nat) : Int)) else none) = some p
  rw [if_pos ⟨rfl, mem_f6.mpr (by omega), mem_f6.mpr (by omega)⟩]
  congr 1
  exact Prod.ext (by show ((48 + p.1.toNat - 48 : Nat) : Int) = p.1; omega) (by show ((48 + p.2.toNat - 48 : Nat) : Int) = p.2; omega)
/-- what _law_due tells -/
def DueV (K : Fg) (o : Option (Nat × List (Int × Int))) (H : Hp) (v : V) : Prop := match o with
  | none => v = .non
  | some x => ∃ q, Tp K H v (.tup [.int x.1, .adr q]) ∧ LsR K H (.ref q) (x.2.map dPr)
theorem DueV.same {o : Option (Nat × List (Int × Int))} {H H' : Hp} {v : V} (e : Same H H') (h : DueV K o H v) : DueV K o H' v := by
  cases o with
  | none => exact h
  | some x =>
    obtain ⟨q, h1, h2⟩ := h
    exact ⟨q, h1.same e, h2.same e⟩
noncomputable def SpDue (K : Fg) : Sp := SpM K (fun t : List Nat => [.dat (dS t)]) (fun t => t.length ≤ 200) (fun t => DueV K (dueT t))
def gP (v : List Nat) : Int × Int := (pairG v).getD (0, 0)
theorem gP_words : ∀ {ws : List (List Nat)}, (∀ v, v ∈ ws → (pairG v).isSome = true) → ws = (ws.map gP).map pairT ∧ ∀ p, p ∈ ws.map gP → (0 ≤ p.1 ∧ p.1 < 6) ∧ 0 ≤ p.2 ∧ p.2 < 6
  | [], _ => ⟨rfl, fun p hp => by simp at hp⟩
  | v :: ws, h => by
    obtain ⟨h1, h2⟩ := gP_words (ws := ws) fun u hu => h u (List.mem_cons_of_mem _ hu)
    have hv := h v List.mem_cons_self
    cases e : pairG v with
    | none => rw [e] at hv; cases hv
    | some p =>
      obtain ⟨k1, k2⟩ := pairG_some e
      have eg : gP v = p := by unfold gP; rw [e]; rfl
      rw [List.map_cons, List.map_cons, eg]
      refine ⟨by rw [← h1, ← k1], fun q hq => ?_⟩
      rcases List.mem_cons.mp hq with rfl | hq
      · exact k2
      · exact h2 q hq
theorem c__law_due (T : Txt K mg a) : Cal P w K mg base CX0 1 "_law_due" ["text"] (SpDue K) := by
  obtain ⟨f, fd, F, g, b⟩ := T.f__law_due
  refine ⟨f, fd, F.ok sc__law_due (fun vs H Q E ⟨y, _, h, _⟩ => h.length.trans rfl) fun cdv A outer s B vs R E hr hsp => ?_, g, F.kp, b⟩
  obtain ⟨t, hp, ha, hR⟩ := hsp
  dsimp only at hp ha hR
  refine ⟨_, (pss_cons (ps_set (i := 1) sc__law_due.nd rfl (Or.inl rfl) (pe_split (pv 0) pe_str))
  (pss_cons (ps_if (PW.pt (pw_or (pt_cmpR op_ne (pe_callB call_len_str (by rfl) T.z_len (by decide +kernel) (pa_cons (pe_ix (r := rIxL K) ix_list (pv 1) pe_int (fun _ _ => rfl)) pa_nil)) pe_int (nomark _)) (pw_or (pt_cmpR op_notin_str (pe_ix (r := rIxS) ix_str (pe_ix (r := rIxL K) ix_list (pv 1) pe_int (fun _ _ => rfl)) pe_int (fun _ _ => rfl)) pe_str (by with_unfolding_all rfl)) (pw_or1 (pt_cmpR op_ne (pe_ix (r := rIxS) ix_str (pe_ix (r := rIxL K) ix_list (pv 1) pe_int (fun _ _ => rfl)) pe_int (fun _ _ => rfl)) pe_str (nomark _)))))) (pss_one (ps_ret pe_non)) pss_nil)
  (pss_cons (ps_set (i := 2) sc__law_due.nd rfl (Or.inl rfl) (pe_m1 PySem.F.slot_str_index PySem.F.type_str_index mt_sindex pe_str (pe_ix (r := rIxS) ix_str (pe_ix (r := rIxL K) ix_list (pv 1) pe_int (fun _ _ => rfl)) pe_int (fun _ _ => rfl))))
  (pss_cons (ps_set (i := 3) sc__law_due.nd rfl (Or.inl rfl) (pe_lst pa_nil))
  (pss_cons (ps_for PassesOwn.never rfl (pi_list (pe_slice (r := rSlL K) sl_list (pv 1) (po_some pe_int) po_none)) (pg_name (i := 4) sc__law_due.nd rfl (Or.inl rfl))
    (pss_cons (ps_if (PW.pt (pw_or (pt_cmpR op_ne (pe_callB call_len_str (by rfl) T.z_len (by decide +kernel) (pa_cons (pv 4) pa_nil)) pe_int (nomark _)) (pw_or (pt_cmpR op_ne (pe_ix (r := rIxS) ix_str (pv 4) pe_int (fun _ _ => rfl)) pe_str (nomark _)) (pw_or (pt_cmpR op_notin_str (pe_ix (r := rIxS) ix_str (pv 4) pe_int (fun _ _ => rfl)) pe_str (by with_unfolding_all rfl)) (pw_or1 (pt_cmpR op_notin_str (pe_ix (r := rIxS) ix_str (pv 4) pe_int (fun _ _ => rfl)) pe_str (by with_unfolding_all rfl))))))) (pss_one (ps_ret pe_non)) pss_nil)
  (pss_one (ps_expr (pe_bm PySem.F.plainAttrs_list PySem.F.slot_list_append PySem.F.type_list_append mt_append (pv 3) (pa_cons (pe_tup (pa_cons (pe_m1 PySem.F.slot_str_index PySem.F.type_str_index mt_sindex pe_str (pe_ix (r := rIxS) ix_str (pv 4) pe_int (fun _ _ => rfl))) (pa_cons (pe_m1 PySem.F.slot_str_index PySem.F.type_str_index mt_sindex pe_str (pe_ix (r := rIxS) ix_str (pv 4) pe_int (fun _ _ => rfl))) pa_nil))) pa_nil))))))
  (pss_cons (ps_for PassesOwn.never rfl (pi_list (pv 3)) (pg_name (i := 5) sc__law_due.nd rfl (Or.inl rfl))
    (pss_one (ps_if (PW.pt (pw_or (pt_cmpR op_ge (pe_ix (r := rIxT K) ix_tup (pv 5) pe_int (fun _ _ => rfl)) (pe_ix (r := rIxT K) ix_tup (pv 5) pe_int (fun _ _ => rfl)) (nomark _)) (pw_or1 (pt_cmpR op_ge (pe_ix (r := rIxT K) ix_tup (pv 5) pe_int (fun _ _ => rfl)) (pv 2) (nomark _))))) (pss_one (ps_ret pe_non)) pss_nil)))
  (pss_cons (ps_if (pt_cmpR (r := rNeD K) (op_neD hr.units) (pv 3) (pe_callB (cr_sortedT rfl) (by rfl) T.z_sorted (by decide +kernel) (pa_cons (pe_callTy (cr_setOfT rfl hr.units) (by rfl) T.z_set (by decide +kernel) (pa_cons (pv 3) pa_nil)) pa_nil)) (nomark _)) (pss_one (ps_ret pe_non)) pss_nil)
  (pss_one (ps_ret (pe_tup (pa_cons (pv 2) (pa_cons (pv 3) pa_nil)))))))))))), ?_⟩
  try dsimp only [cxOf, Cx.nox, Cx.wish]
  cases ha with
  | cons h1 ha =>
  cases ha
  have h1 : Tp K B _ (dS t) := h1
  obtain ⟨w0, ws, hs⟩ := spl_ne 32 t []
  obtain ⟨hw0, hwn, hws⟩ := words_len hs hp
  have hN : (∀ n ps, Wr t (n, ps) → w0 = [48 + n, 58] → ws = ps.map pairT → False) → Rt K B R (.dat .non) := fun k => by
    have e : dueT t = none := by
      cases e : dueT t with
      | none => rfl
      | some x =>
        have wr := dueT_some e
        have z := hs.symm.trans wr.split
        injection z with z1 z2
        exact (k x.1 x.2 wr z1 z2).elim
    refine RtM.dat hR fun H v r => ?_
    rw [e]
    cases r
    rfl
  have hS : ∀ n ps, Wr t (n, ps) → ∀ H v, DueV K (some (n, ps)) H v → DueV K (dueT t) H v := fun n ps wr H v h => by
    rw [dueT_eq wr]
    exact h
  refine body_at (K := K) [dS t] (.cons h1 .nil) (L := [some (dS t), none, none, none, none, none]) ?_
  (walk_at "s"); refine s_asgN (ob := .lst ((w0 :: ws).map dS)) (Ev.isL (ev_splitS (ev_var rfl) (ev_sc (a := [32]) rfl) (by decide) (by omega)) (by rw [hs])) fun q => ?_
  have ew0 : ∀ {O : Own} {L : Sl}, O[0]? = some (q, Ob.lst ((w0 :: ws).map dS)) → L[1]? = some (some (.adr q)) → Ev K B O L (tOp (rIxL K) (tVar 1) (tC (.int 0))) (.dat (dS w0)) := fun ho h => ev_ixL (ev_var h) (Ls.own (j := 0) ho) ev_int (atI_nat' (enc := dS) (xs := w0 :: ws) (k := 0) rfl)
  by_cases hl : w0.length = 2
  · obtain ⟨c, d, rfl⟩ : ∃ c d, w0 = [c, d] := by
      match w0, hl with
      | [c, d], _ => exact ⟨c, d, rfl⟩
    (walk_at "s"); refine s_if (b := !decide ((([c, d] : List Nat).length : Int) = 2) || (!decide (c ∈ s6) || !decide (SX.S [d] = SX.S [58]))) (et_or (et_test (ev_neI (ev_lenS2 (ew0 rfl rfl) (by simp)) ev_int)) fun _ => et_or (et_test (ev_notInS1 (ev_ixS (ew0 rfl rfl) ev_int (by simp) rfl) (ev_sc (a := s6) rfl))) fun _ => et_test (ev_neS (ev_ixS (ew0 rfl rfl) ev_int (by simp) rfl) (ev_sc (a := [58]) rfl))) (fun h => ?_) (fun h => s_end ?_)
    · (walk_at "s"); refine s_ret ev_non (hN fun n ps wr e1 e2 => ?_)
      injection e1 with e1 e3
      injection e3 with e3 _
      have h6 : c ∈ s6 := mem_s6.mpr (by have := wr.n1; have := wr.n6; dsimp only at *; omega)
      rw [e3, decide_eq_true h6] at h
      simp at h
    have hc6 : c ∈ s6 := by
      simp only [Bool.or_eq_false_iff, Bool.not_eq_false', decide_eq_true_eq] at h
      exact h.2.1
    have hd : d = 58 := by
      rw [eqS] at h
      simp at h
      exact h.2
    subst hd
    have hc := mem_s6.mp hc6
    obtain ⟨n, rfl⟩ : ∃ n, c = 48 + n := ⟨c - 48, by omega⟩
    have hin : ∀ m, [48 + n, 58] = [48 + m, 58] → n = m := fun m e => by
      injection e with e _
      omega
    (walk_at "s"); refine s_asg (ev_indexS (ev_sc (a := f7) rfl) (ev_ixS (ew0 rfl rfl) ev_int (by simp) rfl) (at_f7 n (by omega))) ?_
    (walk_at "s"); refine s_asgN (ev_lst ed_nil) fun pp => ?_
    (walk_at "s"); refine s_forN (ob := .lst (ws.map dS)) (Ev.isL (ev_slL (ev_var rfl) (Ls.own (j := 0) rfl) (eo_some ev_int) eo_none) (by rw [cutD_dropG (by decide)]; rfl)) fun pw => ?_
    refine s_forI (enc := dS) (ys := ws) ev_adr (fun pre => [(q, .lst (([48 + n, 58] :: ws).map dS)), (pp, .lst ((pre.map gP).map dPr)), (pw, .lst (ws.map dS))]) (fun pre y => [some (dS t), some (.adr q), some (.int n), some (.adr pp), some (dS y), none]) (fun pre => [some (dS t), some (.adr q), some (.int n), some (.adr pp), none, none]) (fun pre => ∀ v, v ∈ pre → (pairG v).isSome = true) (fun _ => Ls.own (j := 2) rfl) (fun v hv => by simp at hv) s_ok (fun p y => tg_name) (fun pre y post e hI => ?_) fun hI => ?_
    · have hy : y ∈ ws := e ▸ List.mem_append_right pre List.mem_cons_self
      have hyl := hws y hy
      by_cases hy3 : y.length = 3
      · obtain ⟨u, v, z, rfl⟩ : ∃ u v z, y = [u, v, z] := by
          match y, hy3 with
          | [u, v, z], _ => exact ⟨u, v, z, rfl⟩
        (walk_at "s"); refine s_if (b := !decide ((([u, v, z] : List Nat).length : Int) = 3) || (!decide (SX.S [v] = SX.S [45]) || (!decide (u ∈ f6) || !decide (z ∈ f6)))) (et_or (et_test (ev_neI (ev_lenS2 (ev_var rfl) (by simp)) ev_int)) fun _ => et_or (et_test (ev_neS (ev_ixS (ev_var rfl) ev_int (by simp) rfl) (ev_sc (a := [45]) rfl))) fun _ => et_or (et_test (ev_notInS1 (ev_ixS (ev_var rfl) ev_int (by simp) rfl) (ev_sc (a := f6) rfl))) fun _ => et_test (ev_notInS1 (ev_ixS (ev_var rfl) ev_int (by simp) rfl) (ev_sc (a := f6) rfl))) (fun h => ?_) (fun h => s_end ?_)
        · (walk_at "s"); refine s_ret ev_non (hN fun m ps wr e1 e2 => ?_)
          rw [e2] at hy
          obtain ⟨p, hp, ep⟩ := List.mem_map.mp hy
          have k := wr.ok p hp
          have k6 := wr.n6
          dsimp only at k k6
          unfold pairT at ep
          injection ep with k1 ep
          injection ep with k2 ep
          injection ep with k3 _
          rw [eqS, ← k2, decide_eq_true (show u ∈ f6 from mem_f6.mpr (by omega)), decide_eq_true (show z ∈ f6 from mem_f6.mpr (by omega))] at h
          simp at h
        · rw [eqS] at h
          simp only [Bool.or_eq_false_iff, Bool.not_eq_false', decide_eq_true_eq] at h
          obtain ⟨_, hv, hu, hz⟩ := h
          have hv : v = 45 := by simpa using hv
          subst hv
          have hu' := mem_f6.mp hu
          have hz' := mem_f6.mp hz
          obtain ⟨i, rfl⟩ : ∃ i, u = 48 + i := ⟨u - 48, by omega⟩
          obtain ⟨j, rfl⟩ : ∃ j, z = 48 + j := ⟨z - 48, by omega⟩
          have eg : pairG [48 + i, 45, 48 + j] = some ((i : Int), (j : Int)) := by
            have := pairG_of (p := ((i : Int), (j : Int))) (by dsimp only; omega) (by dsimp only; omega)
            exact this
          have egP : gP [48 + i, 45, 48 + j] = ((i : Int), (j : Int)) := by unfold gP; rw [eg]; rfl
          have hpl : pre.length ≤ 200 := by rw [e, List.length_append] at hwn; omega
          (walk_at "s"); refine s_app (j := 1) (d := dPr ((i : Int), (j : Int))) (ev_var rfl) rfl (ev_tup (ed_cons (ev_indexS (ev_sc (a := f6) rfl) (ev_ixS (ev_var rfl) ev_int (by simp) rfl) (at_f6 i (by omega))) (ed_cons (ev_indexS (ev_sc (a := f6) rfl) (ev_ixS (ev_var rfl) ev_int (by simp) rfl) (at_f6 j (by omega))) ed_nil))) (by rw [List.length_map, List.length_map]; omega) ?_
          refine s_okI (fun v hv => ?_) ?_
          · rcases List.mem_append.mp hv with hv | hv
            · exact hI v hv
            · rw [List.mem_singleton.mp hv, eg]
              rfl
          · have em : (pre.map gP).map dPr ++ [dPr ((i : Int), (j : Int))] = ((pre ++ [[48 + i, 45, 48 + j]]).map gP).map dPr := by
              rw [List.map_append, List.map_append]
              show _ = _ ++ [dPr (gP [48 + i, 45, 48 + j])]
              rw [egP]
            rw [em]
            exact s_okW (.same (.same (.same (.same (.none (.none .nil))))))
      · (walk_at "s"); refine s_if (b := !decide ((y.length : Int) = 3) || true) (et_or (et_test (ev_neI (ev_lenS2 (ev_var rfl) (by omega)) ev_int)) fun z => absurd z (by simp; omega)) (fun h => ?_) (fun h => ?_)
        · (walk_at "s"); refine s_ret ev_non (hN fun m ps wr e1 e2 => ?_)
          rw [e2] at hy
          obtain ⟨p, hp, ep⟩ := List.mem_map.mp hy
          exact hy3 (by rw [← ep]; rfl)
        · rw [Bool.or_true] at h
          cases h
    · obtain ⟨hwp, hb6⟩ := gP_words hI
      generalize hps : ws.map gP = ps at hwp hb6 ⊢
      have htx : t = txtT n ps := words_txt (by rw [hs, ← hwp])
      have hpl : ps.length < 50 := by
        have h1 : (txtT n ps).length = 2 + 4 * ps.length := by unfold txtT; rw [List.length_append, tailT_len]; rfl
        rw [← htx] at h1
        omega
      have hF : ∀ m qs, Wr t (m, qs) → [48 + n, 58] = [48 + m, 58] → ws = qs.map pairT → qs = ps := fun m qs wr e1 e2 => by
        refine pairsT_inj wr.fig (fun p hp => ?_) (e2.symm.trans hwp)
        have := hb6 p hp
        unfold okF
        omega
      (walk_at "s"); refine s_forI (enc := dPr) (ys := ps) (ev_var rfl) (fun _ => [(q, .lst (([48 + n, 58] :: ws).map dS)), (pp, .lst (ps.map dPr)), (pw, .lst (ws.map dS))]) (fun pre y => [some (dS t), some (.adr q), some (.int n), some (.adr pp), none, some (dPr y)]) (fun pre => [some (dS t), some (.adr q), some (.int n), some (.adr pp), none, none]) (fun pre => ∀ p, p ∈ pre → p.1 < p.2 ∧ p.2 < n) (fun _ => Ls.own (j := 1) rfl) (fun p hp => by simp at hp) s_ok (fun p y => tg_name) (fun pre y post e hJ => ?_) fun hJ => ?_
      · have hy : y ∈ ps := e ▸ List.mem_append_right pre List.mem_cons_self
        have i0 : ∀ {O : Own} {L : Sl}, L[5]? = some (some (dPr y)) → Ev K B O L (tOp (rIxT K) (tVar 5) (tC (.int 0))) (.dat (.int y.1)) := fun h => ev_ixT (ds := [.int y.1, .int y.2]) (ev_var h) ev_int rfl
        have i1 : ∀ {O : Own} {L : Sl}, L[5]? = some (some (dPr y)) → Ev K B O L (tOp (rIxT K) (tVar 5) (tC (.int 1))) (.dat (.int y.2)) := fun h => ev_ixT (ds := [.int y.1, .int y.2]) (ev_var h) ev_int rfl
        (walk_at "s"); refine s_if (b := decide (y.1 ≥ y.2) || decide (y.2 ≥ (n : Int))) (et_or (et_test (ev_rI0 (i0 rfl) (i1 rfl) fun _ => .bl _)) fun _ => et_test (ev_rI0 (i1 rfl) (ev_var rfl) fun _ => .bl _)) (fun h => ?_) (fun h => s_end ?_)
        · (walk_at "s"); refine s_ret ev_non (hN fun m qs wr e1 e2 => ?_)
          have hq := hF m qs wr e1 e2
          subst hq
          have k := wr.ok y hy
          have hm := hin m e1
          dsimp only at k
          simp at h
          omega
        · refine s_okI (fun p hp => ?_) (s_okW (.same (.same (.same (.same (.none (.none .nil)))))))
          rcases List.mem_append.mp hp with hp | hp
          · exact hJ p hp
          · rw [List.mem_singleton.mp hp]
            simp at h
            omega
      · (walk_at "s"); refine s_if (b := !decide (ps = srtU ps)) (et_test (Ev.isD (ev_neL (ds := ps.map dPr) (es := (srtU ps).map dPr) (ev_var rfl) (Ls.own (j := 1) rfl) (ev_sortSetPL (ev_var rfl) (Ls.own (j := 1) rfl) (by omega) (fun p hp => by have := hb6 p hp; omega)) Ls.new (okL_good goodPr (by omega) ps) (okL_good goodPr (by omega) (srtU ps))) (by rw [eqL_good goodPr]))) (fun h => ?_) (fun h => s_end ?_)
        · (walk_at "s"); refine s_ret ev_non (hN fun m qs wr e1 e2 => ?_)
          have hq := hF m qs wr e1 e2
          subst hq
          have k := wr.srt
          dsimp only at k
          rw [decide_eq_true k] at h
          cases h
        · have hsr : ps = srtU ps := by simpa using h
          have wr : Wr t (n, ps) := ⟨by dsimp only; omega, by dsimp only; omega, fun p hp => by
            have k1 := hb6 p hp
            have k2 := hJ p hp
            dsimp only
            omega, hsr, htx⟩
          (walk_at "s"); exact s_retW (ev_tup (ed_cons (ev_var rfl) (ed_cons (ev_var rfl) ed_nil))) (fun σ H v s r => hS n ps wr H v ⟨pp, r, s.ls (j := 1) rfl⟩) hR
  · (walk_at "s"); refine s_if (b := !decide ((w0.length : Int) = 2) || true) (et_or (et_test (ev_neI (ev_lenS2 (ew0 rfl rfl) (by omega)) ev_int)) fun z => absurd z (by simp; omega)) (fun h => ?_) (fun h => ?_)
    · (walk_at "s"); refine s_ret ev_non (hN fun n ps wr e1 e2 => ?_)
      exact hl (by rw [e1]; rfl)
    · rw [Bool.or_true] at h
      cases h
theorem ev_due {B : Hp} {O : Own} {L : Sl} {ta : TE} {E : XK} {t : List Nat} (h : Ev K B O L ta (.dat (dS t))) (hl : t.length ≤ 200) : EvM K B O L (tCall (SpDue K) [] E (tCons ta tNil)) (DueV K (dueT t)) :=
  ev_callM t (ea_cons h ea_nil) hl (.cons .dat .nil)
end
end My

/-! ### k10: texts spoiled; what is told of reading -/
namespace GT
open PySem PySem.Spec PyProof.Rows L2
section
variable {K : Fg} {B : Hp} {O : Own} {L : Sl} {te ta tb tx : TE} {t u : TT} {D : Ends} {tu tw : TS} {g : TG} {E : XK}
theorem inV_bls (i : Bool) (ns : List Bool) : inV (.bl i) (ns.map V.bl) = decide (i ∈ ns) := by
  unfold inV
  induction ns with
  | nil => rfl
  | cons n ns ih =>
    rw [List.map_cons, List.any_cons, ih]
    show ((n == i) || decide (i ∈ ns)) = decide (i ∈ n :: ns)
    by_cases h : n = i
    · subst h
      simp
    · have h' : ¬ i = n := fun z => h z.symm
      simp [h, h']
theorem flat_bls (ns : List Bool) : (ns.map V.bl).all flatV = true := by
  rw [List.all_eq_true]
  intro x hx
  obtain ⟨n, _, rfl⟩ := List.mem_map.mp hx
  rfl
theorem ev_notInLB {i : Bool} {ns : List Bool} {r : Rs} (ha : Ev K B O L ta (.dat (.bl i))) (hb : Ev K B O L tb r) (hl : Ls K B O r (ns.map .bl)) : Ev K B O L (tOp (rIn K true) ta tb) (.dat (.bl (!decide (i ∈ ns)))) := fun σ H s Q q =>
  ha σ H s _ fun v H1 e1 r1 => hb σ H1 (s.same e1) _ fun v2 H2 e2 r2 => by
    cases r1
    obtain ⟨p, vs, rfl, h1, h2⟩ := hl L σ H1 H2 v2 (s.same e1) e2 r2
    rw [h2.bls] at h1
    refine ⟨_, _, rfl, .inl h1, rfl, flat_bls ns, ?_⟩
    rw [if_pos rfl, inV_bls]
    exact q _ H2 (e1.trans e2) (.bl _)
/-- x = ('..', a made thing) -/
theorem s_asgTO {i : Nat} {φ : Mono} {z : Str} (h : Ev K B O L te (.obj φ)) (hO : O.all (fun x => match x.2 with | .lst _ => true | _ => false) = true) (k : ∀ B' b, Same B B' → φ.p B' b → Nx K B' O (L.set i (some (.tup [.str z, .adr b]))) D.nx) : Nx K B O L (tAsg (tTup (tCons (tC (.str z)) (tCons te tNil))) (gName i) D) := fun σ H s =>
  h σ H s _ fun v H1 e1 ⟨b, hv, hp⟩ => by
    subst hv
    refine ⟨by show 2 ≤ sizeLine; rw [sizeLine_eq]; omega, fun p hp0 => ?_⟩
    have e2 : Same H1 (upd H1 p (.tup [.str z, .ref b])) := Same.new hp0
    obtain ⟨B', e', s', kp⟩ := (s.same (e1.trans e2)).ground2
    exact k B' b e' (RsR.dropLst (φ.up _ _ _ e2 hp) (s.same (e1.trans e2)) hO kp) _ _ (s'.set (.tup (.inl (.inl upd_same)) (.cons (.str z) (.cons (.adr b) .nil))))
/-- the exception of the class C comes in an assignment, and the suite takes it -/
theorem s_caughtT {α : Type} {as : α → List As} {pre : α → Prop} {out : α → Option Addr} {res : α → Rs} {tr : TA} {rs : List Rs} {C : Addr} {c : Value} {i : Nat} {ts : Addr → Value → Option Addr → TS} {Wout : WX} {z : V} (x : α) (h : EvA K B O L tr rs) (hp : pre x) (ho : out x = some C) (ha : AsAll K B O rs (as x)) (hc : PySem.W.exmOne K (.ref C) c = some true)
    (k : ∀ aE, Nx K B O (L.set i (some (.adr aE))) (ts aE (.ref C) none { nx := fun σ' H' => D.nx (σ'.set i none) H', rt := D.rt, bk := fun σ' H' => D.bk (σ'.set i none) H', ct := fun σ' H' => D.ct (σ'.set i none) H' })) :
    Nx K B O L (tAsg (tTup (tCons (tC z) (tCons (tCallS (SpE K as pre out res) (WE (wAs K c i ts Wout D)) tr) tNil))) g D) := fun σ H s =>
  h σ H s _ fun vs H1 e1 r1 => ⟨x, hp, ha.run s e1 r1, fun z => (nomatch ho.symm.trans z), fun C' z H' e => by
    rw [ho] at z
    cases z
    exact ⟨true, hc, fun _ aE _ => k aE _ H' (((s.same e1).same e).set (.adr aE)), fun z => nomatch z⟩⟩
end
end GT
namespace My
open PySem PySem.Spec PyProof.Rows L2 GT SetX RevX
section
variable {P : Program} {w : World} {K : Fg} {mg : Str → Option Value} {base : Heap} {a : Adr}
/-- what is told of reading -/
def ToldV (K : Fg) (a : Adr) (o : Option (Nat × List (Int × Int))) (H : Hp) (v : V) : Prop := match o with
  | none => Tp K H v (.tup [.str "refused", .bl true])
  | some x => ∃ b, Tp K H v (.tup [.str "read", .adr b]) ∧ CrAt a.c_Crossing H b (crOf x.1 x.2)
noncomputable def SpTold (K : Fg) (a : Adr) : Sp := SpM K (fun t : List Nat => [.dat (dS t)]) (fun t => t.length ≤ 200) (fun t => ToldV K a (dueT t))
theorem exm_turn (T : Txt K mg a) : PySem.W.exmOne K (.ref a.c_BadNote) (.ref a.c_TurnError) = some true := PySem.W.exm_ref T.x_TurnError.b T.hd_TurnError T.x_TurnError.t T.s_BadNote_TurnError
theorem c__law_told (T : Txt K mg a) : Cal P w K mg base CX0 4 "_law_told" ["text"] (SpTold K a) := by
  obtain ⟨f, fd, F, g, b⟩ := T.f__law_told
  refine ⟨f, fd, F.ok sc__law_told (fun vs H Q E ⟨y, _, h, _⟩ => h.length.trans rfl) fun cdv A outer s B vs R E hr hsp => ?_, g, F.kp, b⟩
  obtain ⟨t, hp, ha, hR⟩ := hsp
  dsimp only at hp ha hR
  refine ⟨_, (pss_cons (ps_set (i := 1) sc__law_told.nd rfl (Or.inl rfl) pe_non)
  (pss_cons (ps_try_as (i := 3) rfl rfl sc__law_told.nd rfl rfl ⟨rfl, by decide, .inl T.g_TurnError⟩ takes0 (fun W pn xe tk _ =>
    (pss_one (ps_set (i := 1) sc__law_told.nd rfl (Or.inl rfl) (pe_tup (pa_cons pe_str (pa_cons (Cal.peS (x_read T) hr (fun σ => passAt tk σ) (pa_cons (pv 0) pa_nil)) pa_nil)))))) (fun aE oe cls d pn hz hf =>
    (pss_cons (ps_set (i := 2) sc__law_told.nd rfl (Or.inl rfl) (pe_lst (pa_cons (pe_callB (r := rIsX K cls d aE) (call_isX hz hf) (by rfl) T.z_isinstance (by decide +kernel) (pa_cons (pv 3) (pa_cons (pe_glob (v := .ref a.c_BadSize) (by rfl) T.g_BadSize rfl) pa_nil))) (pa_cons (pe_callB (r := rIsX K cls d aE) (call_isX hz hf) (by rfl) T.z_isinstance (by decide +kernel) (pa_cons (pv 3) (pa_cons (pe_glob (v := .ref a.c_BadClash) (by rfl) T.g_BadClash rfl) pa_nil))) (pa_cons (pe_callB (r := rIsX K cls d aE) (call_isX hz hf) (by rfl) T.z_isinstance (by decide +kernel) (pa_cons (pv 3) (pa_cons (pe_glob (v := .ref a.c_BadWish) (by rfl) T.g_BadWish rfl) pa_nil))) (pa_cons (pe_callB (r := rIsX K cls d aE) (call_isX hz hf) (by rfl) T.z_isinstance (by decide +kernel) (pa_cons (pv 3) (pa_cons (pe_glob (v := .ref a.c_NoStream) (by rfl) T.g_NoStream rfl) pa_nil))) pa_nil))))))
  (pss_one (ps_set (i := 1) sc__law_told.nd rfl (Or.inl rfl) (pe_tup (pa_cons pe_str (pa_cons (pe_and (pe_callB (r := rIsX K cls d aE) (call_isX hz hf) (by rfl) T.z_isinstance (by decide +kernel) (pa_cons (pv 3) (pa_cons (pe_glob (v := .ref a.c_BadNote) (by rfl) T.g_BadNote rfl) pa_nil))) (pe_and (pe_callB (r := rIsX K cls d aE) (call_isX hz hf) (by rfl) T.z_isinstance (by decide +kernel) (pa_cons (pv 3) (pa_cons (pe_bltn (v := .ty "ValueError") (by rfl) T.z_ValueError (by decide +kernel) rfl) pa_nil))) (pe_one (pe_cmpR (r := rIn K true) op_notIn_seq pe_bl (pv 2) (by with_unfolding_all rfl))))) pa_nil))))))))
  (pss_one (ps_ret (pv 1))))), ?_⟩
  try dsimp only [cxOf, Cx.nox, Cx.wish]
  cases ha with
  | cons h1 ha =>
  cases ha
  have h1 : Tp K B _ (dS t) := h1
  refine body_at (K := K) [dS t] (.cons h1 .nil) (L := [some (dS t), none, none, none]) ?_
  (walk_at "s"); refine s_asg ev_non ?_
  cases ho : dueT t with
  | some x =>
    rw [ho] at hR
    (walk_at "s"); refine s_asgTO (φ := crM a.c_Crossing (crOf x.1 x.2)) (Ev.is (ev_callS t (ea_cons (ev_var rfl) ea_nil) hp (outO_some ho) (.cons .dat .nil)) (by rw [ho]; rfl)) rfl fun B' b e hb => ?_
    (walk_at "s"); exact s_retW (B := B') (ev_var rfl) (fun σ H v s r => ⟨b, r, (crM a.c_Crossing _).up _ _ _ s.ex hb⟩) (hR.ground e)
  | none =>
    rw [ho] at hR
    (walk_at "s"); refine s_caughtT t (ea_cons (ev_var rfl) ea_nil) hp (outO_none ho) (.cons .dat .nil) (exm_turn T) fun aE => ?_
    have hx := T.e_BadNote
    have k1 := kit_ref T.x_BadSize.i T.x_BadSize.t T.s_BadNote_BadSize T.s_BadSize_BadSize
    have k2 := kit_ref T.x_BadClash.i T.x_BadClash.t T.s_BadNote_BadClash T.s_BadClash_BadClash
    have k3 := kit_ref T.x_BadWish.i T.x_BadWish.t T.s_BadNote_BadWish T.s_BadWish_BadWish
    have k4 := kit_ref T.x_NoStream.i T.x_NoStream.t T.s_BadNote_NoStream T.s_NoStream_NoStream
    have k5 := kit_ref T.x_BadNote.i T.x_BadNote.t T.s_BadNote_BadNote T.s_BadNote_BadNote
    have k6 := kit_val T.v_BadNote
    (walk_at "s"); refine s_asgN (ob := .lst ([false, false, false, false].map .bl)) (ev_lst (ed_cons (ev_isX (ev_var rfl) hx (fun _ z => z) k1) (ed_cons (ev_isX (ev_var rfl) hx (fun _ z => z) k2) (ed_cons (ev_isX (ev_var rfl) hx (fun _ z => z) k3) (ed_cons (ev_isX (ev_var rfl) hx (fun _ z => z) k4) ed_nil))))) fun p1 => ?_
    (walk_at "s"); refine s_asg (d := .tup [.str "refused", .bl true]) (Ev.isD (ev_tup (ed_cons ev_str (ed_cons (ev_andV (ev_isX (ev_var rfl) hx (fun _ z => z) k5) fun _ => ev_andV (ev_isX (ev_var rfl) hx (fun _ z => z) k6) fun _ => ev_notInLB (ns := [false, false, false, false]) ev_bl (ev_var rfl) (Ls.own (j := 0) rfl)) ed_nil))) rfl) ?_
    refine s_unset (i := 3) (P := tRet (tVar 1) { nx := fun x H' => R V.non H', rt := R }) ?_
    (walk_at "s"); exact s_retW (ev_var rfl) (fun σ H v s r => r) hR
theorem ev_told {B : Hp} {O : Own} {L : Sl} {ta : TE} {E : XK} {t : List Nat} (h : Ev K B O L ta (.dat (dS t))) (hl : t.length ≤ 200) : EvM K B O L (tCall (SpTold K a) [] E (tCons ta tNil)) (ToldV K a (dueT t)) :=
  ev_callM t (ea_cons h ea_nil) hl (.cons .dat .nil)
theorem ev_isiR (T : Txt K mg a) {B : Hp} {O : Own} {L : Sl} {ta : TE} {b : Addr} {c : Cr} (hc : CrAt a.c_Crossing B b c) (h : Ev K B O L ta (.dat (.adr b))) : Ev K B O L (tCB (rIsi K) (tCons ta (tCons (tC (.ref a.c_Crossing)) tNil))) (.dat (.bl true)) := fun σ H s Q q =>
  h σ H s _ fun v H1 e1 r1 => by
    cases r1
    obtain ⟨dx, d, h1, _⟩ := hc
    refine ⟨.ref b, .ref a.c_Crossing, .ref a.c_Crossing, .ref a.c_Crossing, true, rfl, .own _, .base (T.isi_Crossing H1 b dx _ ((s.same e1).ex _ _ h1)), ?_, q _ H1 e1 (.bl _)⟩
    unfold PySem.W.kitOne
    rw [if_pos (by simp)]
noncomputable def SpRight (K : Fg) : Sp := SpF K (fun t : List Nat => [.dat (dS t), .any (DueV K (dueT t))]) (fun t => t.length ≤ 200) (fun _ => .dat (.bl true))
theorem c__law_right (T : Txt K mg a) : Cal P w K mg base CX0 5 "_law_right" ["text", "due"] (SpRight K) := by
  refine cal_ok T.f__law_right sc__law_right (fun _ => rfl) fun f cdv A outer s B vs R E t hr hp ha hR => ?_
  have hp : t.length ≤ 200 := hp
  refine ⟨_, (pss_cons (ps_set (i := 2) sc__law_right.nd rfl (Or.inl rfl) (Cal.pe (c__law_told T) hr pass0 (pa_cons (pv 0) pa_nil)))
  (pss_cons (ps_if (pt_cmpR op_isN (pv 1) pe_non (nomark _)) (pss_one (ps_ret (pe_cmpR (r := rEqD K) (op_eqD hr.units) (pv 2) (pe_tup (pa_cons pe_str (pa_cons pe_bl pa_nil))) (nomark _)))) pss_nil)
  (pss_cons (ps_if (PW.pt (pw_or (pt_cmpR op_ne (pe_ix (r := rIxT K) ix_tup (pv 2) pe_int (fun _ _ => rfl)) pe_str (nomark _)) (pw_or (pt_not (pt_val (pe_callB call_isi (by rfl) T.z_isinstance (by decide +kernel) (pa_cons (pe_ix (r := rIxT K) ix_tup (pv 2) pe_int (fun _ _ => rfl)) (pa_cons (pe_glob (v := .ref a.c_Crossing) (by rfl) T.g_Crossing rfl) pa_nil))))) (pw_or1 (pt_cmpR op_ne (CalM.pe0 (c_Crossing_size T) (pe_ix (r := rIxT K) ix_tup (pv 2) pe_int (fun _ _ => rfl)) hr pass0) (pe_ix (r := rIxT K) ix_tup (pv 1) pe_int (fun _ _ => rfl)) (nomark _)))))) (pss_one (ps_ret pe_bl)) pss_nil)
  (pss_one (ps_ret (pe_and (pe_cmpR (r := rEqD K) (op_eqD hr.units) (CalM.pe0 (c_Crossing_clashes T) (pe_ix (r := rIxT K) ix_tup (pv 2) pe_int (fun _ _ => rfl)) hr pass0) (pe_ix (r := rIxT K) ix_tup (pv 1) pe_int (fun _ _ => rfl)) (nomark _)) (pe_one (pe_cmpR op_eq (Cal.pe (c_shown T) hr pass0 (pa_cons (pe_ix (r := rIxT K) ix_tup (pv 2) pe_int (fun _ _ => rfl)) pa_nil)) (pv 0) (nomark _))))))))), ?_⟩
  try dsimp only [cxOf, Cx.nox, Cx.wish]
  cases ha with
  | cons h1 ha => cases ha with
  | cons h2 ha =>
  cases ha
  have h1 : Tp K B _ (dS t) := h1
  have h2 : DueV K (dueT t) B _ := h2
  cases ho : dueT t with
  | none =>
    rw [ho] at h2
    cases h2
    refine body_at (K := K) [dS t, .non] (.cons h1 (.cons .non .nil)) (L := [some (dS t), some .non, none]) ?_
    (walk_at "s"); refine s_asgMD (ι := Unit) (d := fun _ => .tup [.str "refused", .bl true]) (F := fun _ _ => True) (ev_told (a := a) (ev_var rfl) hp) (fun H v h => ⟨(), by rw [ho] at h; exact h, trivial⟩) fun B' _ e _ => ?_
    have hR := hR.ground e
    (walk_at "s"); refine s_if (b := true) (et_test (Ev.isD (ev_isN (ev_var rfl)) rfl)) (fun _ => ?_) fun h => nomatch h
    (walk_at "s"); exact s_ret (Ev.isD (ev_eqD (d := .tup [.str "refused", .bl true]) (e := .tup [.str "refused", .bl true]) (ev_var rfl) (ev_tup (ed_cons ev_str (ed_cons ev_bl ed_nil))) (by decide +kernel) (by decide +kernel)) (congrArg Dt.bl (by decide +kernel))) hR
  | some x =>
    obtain ⟨n, ps⟩ := x
    have wr := dueT_some ho
    rw [ho] at h2
    obtain ⟨q, h2, hq⟩ := h2
    dsimp only at h2 hq
    refine body_at (K := K) [dS t, .tup [.int n, .adr q]] (.cons h1 (.cons h2 .nil)) (L := [some (dS t), some (.tup [.int n, .adr q]), none]) ?_
    (walk_at "s"); refine s_asgMD (ι := Addr) (d := fun b => .tup [.str "read", .adr b]) (F := fun b H => CrAt a.c_Crossing H b (crOf n ps)) (ev_told (a := a) (ev_var rfl) hp) (fun H v h => by rw [ho] at h; exact h) fun B' b e hb => ?_
    have hR := hR.ground e
    have hq := hq.same e
    have hn := wr.n1
    have h6 := wr.n6
    dsimp only at hn h6
    have okp : ∀ p, p ∈ ps → okP n p := fun p hp => by
      have := wr.ok p hp
      dsimp only at this
      unfold okP
      omega
    have hcr := crOf_ok hn h6 okp
    have hsrt := wr.srt
    dsimp only at hsrt
    have hso : srtP (crOf n ps).ps = ps := by
      rw [same_srt hn h6 okp, norm_ids fun p hp => (wr.ok p hp).2.1, ← hsrt]
    have htx : t = txtT n ps := wr.eq
    have hpl : ps.length ≤ 60 := by
      have h1 : (txtT n ps).length = 2 + 4 * ps.length := by unfold txtT; rw [List.length_append, tailT_len]; rfl
      rw [← htx] at h1
      omega
    have hcl : (crOf n ps).ps.length ≤ 1000 := by
      have := foldl_addP_len (ps.map norm) []
      rw [List.length_map] at this
      show ((ps.map norm).foldl addP []).length ≤ 1000
      simp at this
      omega
    have f0 : ∀ {L : Sl}, L[2]? = some (some (.tup [.str "read", .adr b])) → Ev K B' [] L (tOp (rIxT K) (tVar 2) (tC (.int 0))) (.dat (dS [114, 101, 97, 100])) := fun h => Ev.isD (ev_ixT (ds := [.str "read", .adr b]) (ev_var h) ev_int rfl) rfl
    have f1 : ∀ {L : Sl}, L[2]? = some (some (.tup [.str "read", .adr b])) → Ev K B' [] L (tOp (rIxT K) (tVar 2) (tC (.int 1))) (.dat (.adr b)) := fun h => ev_ixT (ds := [.str "read", .adr b]) (ev_var h) ev_int rfl
    have d0 : ∀ {L : Sl}, L[1]? = some (some (.tup [.int n, .adr q])) → Ev K B' [] L (tOp (rIxT K) (tVar 1) (tC (.int 0))) (.dat (.int n)) := fun h => ev_ixT (ds := [.int n, .adr q]) (ev_var h) ev_int rfl
    have d1 : ∀ {L : Sl}, L[1]? = some (some (.tup [.int n, .adr q])) → Ev K B' [] L (tOp (rIxT K) (tVar 1) (tC (.int 1))) (.dat (.adr q)) := fun h => ev_ixT (ds := [.int n, .adr q]) (ev_var h) ev_int rfl
    (walk_at "s"); refine s_if (b := false) (et_test (Ev.isD (ev_isN (ev_var rfl)) rfl)) (fun h => nomatch h) fun _ => s_end ?_
    (walk_at "s"); refine s_if (b := !decide (SX.S [114, 101, 97, 100] = SX.S [114, 101, 97, 100]) || (!true || !decide ((n : Int) = n))) (et_or (et_test (ev_neS (f0 rfl) (ev_sc (a := [114, 101, 97, 100]) rfl))) fun _ => et_or (et_not (et_test (ev_isiR T hb (f1 rfl)))) fun _ => et_test (ev_neI (ev_size hb (f1 rfl)) (d0 rfl))) (fun h => by simp at h) (fun _ => s_end ?_)
    (walk_at "s"); refine s_ret (Ev.isD (ev_andV (Ev.isD (ev_eqL (ds := ps.map dPr) (es := ps.map dPr) (Ev.isL (ev_clashes hb (f1 rfl)) (by rw [hso])) Ls.new (d1 rfl) (Ls.base hq) (okL_good goodPr (by omega) ps) (okL_good goodPr (by omega) ps)) (by rw [eqL_good goodPr])) fun _ => Ev.isD (ev_eqS (Ev.isD (ev_shown hb (f1 rfl) ⟨hcr, hcl⟩) (by rw [hso])) (ev_var rfl)) (by rw [eqS])) (d' := .bl true) ?_) hR
    rw [show (txtT (crOf n ps).n ps) = t from htx.symm]
    simp
theorem ev_right {B : Hp} {O : Own} {L : Sl} {ta tb : TE} {E : XK} {t : List Nat} {d : Dt} (h : Ev K B O L ta (.dat (dS t))) (h2 : Ev K B O L tb (.dat d)) (hd : ∀ H v, Same B H → Tp K H v d → DueV K (dueT t) H v) (hl : t.length ≤ 200) : Ev K B O L (tCall (SpRight K) [] E (tCons ta (tCons tb tNil))) (.dat (.bl true)) :=
  ev_call t (ea_cons h (ea_cons h2 ea_nil)) hl (.cons .dat (.cons (fun L σ H H2 v s e r => hd H2 v (s.ex.trans e) r) .nil))
end
end My

/-! ### k10: texts spoiled -/
namespace My
open PySem PySem.Spec PyProof.Rows L2 GT SetX RevX
section
variable {P : Program} {w : World} {K : Fg} {mg : Str → Option Value} {base : Heap} {a : Adr}
abbrev sgns : List Nat := [48, 49, 50, 51, 52, 53, 54, 55, 56, 57, 45, 32, 58, 43, 95, 97, 10]
theorem sgn_at (i : Int) (h0 : 0 ≤ i) (h1 : i < 17) : ∃ c, atI sgns i = some c := by
  obtain ⟨k, rfl⟩ := Int.eq_ofNat_of_zero_le h0
  unfold atI
  have hk : k < sgns.length := by
    show k < 17
    omega
  rw [ixN_nat hk]
  exact ⟨_, List.getElem?_eq_getElem hk⟩
/-- a text that may be spoiled -/
structure Spoil (t : List Nat) : Prop where
  len : t.length ≤ 130
  few : (TL.spl [32] 0 [] t).length ≤ 40
  wds : ∀ v, v ∈ TL.spl [32] 0 [] t → v.length ≤ 3
theorem spoil_txt {n : Nat} {ps : List (Int × Int)} (hn : n ≤ 6) (hl : ps.length ≤ 30) (h : ∀ p, p ∈ ps → okF p) : Spoil (txtT n ps) := by
  have hs := txtT_split (n := n) (by omega) h
  have h1 : (txtT n ps).length = 2 + 4 * ps.length := by unfold txtT; rw [List.length_append, tailT_len]; rfl
  refine ⟨by omega, ?_, fun v hv => ?_⟩
  · rw [hs, List.length_cons, List.length_map]
    omega
  · rw [hs] at hv
    rcases List.mem_cons.mp hv with rfl | hv
    · show 2 ≤ 3
      omega
    · obtain ⟨p, _, rfl⟩ := List.mem_map.mp hv
      exact Nat.le_refl 3
/-- words that are kept on the way -/
structure Wds (way : Int) (n0 : Nat) (wl : List (List Nat)) : Prop where
  few : wl.length ≤ 42
  wds : ∀ v, v ∈ wl → v.length ≤ 3
  same : 7 ≤ way → wl.length = n0
abbrev Wp (way : Int) (n0 : Nat) : Type := { x : List (List Nat) × Addr // Wds way n0 x.1 }
def SpSpoil (K : Fg) : Sp := SpM K (fun x : List Nat × Int × Int × Int => [.dat (dS x.1), .dat (.int x.2.1), .dat (.int x.2.2.1), .dat (.int x.2.2.2)]) (fun x => Spoil x.1) (fun _ => TxtV K)
theorem c__law_spoiled (T : Txt K mg a) : Cal P w K mg base CX0 1 "_law_spoiled" ["text", "way", "cell", "other"] (SpSpoil K) := by
  obtain ⟨f, fd, F, g, b⟩ := T.f__law_spoiled
  refine ⟨f, fd, F.ok sc__law_spoiled (fun vs H Q E ⟨y, _, h, _⟩ => h.length.trans rfl) fun cdv A outer s B vs R E hr hsp => ?_, g, F.kp, b⟩
  obtain ⟨⟨t, way, cell, other⟩, hp, ha, hR⟩ := hsp
  dsimp only at hp ha hR
  refine ⟨_, (pss_cons (ps_set (i := 4) sc__law_spoiled.nd rfl (Or.inl rfl) pe_str)
  (pss_cons (ps_set (i := 5) sc__law_spoiled.nd rfl (Or.inl rfl) (pe_ix (r := rIxS) ix_str (pv 4) (pe_op op_mod (pv 3) pe_int) (fun _ _ => rfl)))
  (pss_cons (ps_set (i := 6) sc__law_spoiled.nd rfl (Or.inl rfl) (pe_op op_mod (pv 2) (pe_op op_add (pe_callB call_len_str (by rfl) T.z_len (by decide +kernel) (pa_cons (pv 0) pa_nil)) pe_int)))
  (pss_cons (ps_set (i := 7) sc__law_spoiled.nd rfl (Or.inl rfl) (pe_split (pv 0) pe_str))
  (pss_cons (ps_set (i := 8) sc__law_spoiled.nd rfl (Or.inl rfl) (pe_op op_mod (pv 2) (pe_callB (r := fun xs H Q => ∃ p ys, xs = [V.ref p] ∧ (SqL K H p ys ∨ SqT K H p ys) ∧ Q (V.int ys.length) H) call_len_seq (by rfl) T.z_len (by decide +kernel) (pa_cons (pv 7) pa_nil))))
  (pss_cons (ps_if (pt_cmpR op_eq (pv 1) pe_int (nomark _)) (pss_one (ps_ret (pe_op op_add_str (pe_op op_add_str (pe_slice sl_str (pv 0) po_none (po_some (pv 6))) (pv 5)) (pe_slice sl_str (pv 0) (po_some (pv 6)) po_none)))) pss_nil)
  (pss_cons (ps_if (pt_cmpR op_eq (pv 1) pe_int (nomark _)) (pss_one (ps_ret (pe_op op_add_str (pe_op op_add_str (pe_slice sl_str (pv 0) po_none (po_some (pv 6))) (pv 5)) (pe_slice sl_str (pv 0) (po_some (pe_op op_add (pv 6) pe_int)) po_none)))) pss_nil)
  (pss_cons (ps_if (pt_cmpR op_eq (pv 1) pe_int (nomark _)) (pss_one (ps_ret (pe_op op_add_str (pe_slice sl_str (pv 0) po_none (po_some (pv 6))) (pe_slice sl_str (pv 0) (po_some (pe_op op_add (pv 6) pe_int)) po_none)))) pss_nil)
  (pss_cut (ps_if (pt_cmpR op_eq (pv 1) pe_int (nomark _)) (pss_one (ps_set (i := 7) sc__law_spoiled.nd rfl (Or.inl rfl) (pe_op op_cat (pe_slice (r := rSlL K) sl_list (pv 7) po_none (po_some pe_int)) (pe_lc (own := [("word", 9)]) (g := gName 9) (tt := tYes) rfl sc__law_spoiled.nd (pi_reversed (by rfl) T.z_reversed (pa_cons (pe_slice (r := rSlL K) sl_list (pv 7) (po_some pe_int) po_none) pa_nil)) (blkOk_by (own := [("word", 9)]) (N := n__law_spoiled) (sc := defScope s__law_spoiled) (by decide +kernel)) (fun _ _ _ _ _ => pg_name (i := 9) sc__law_spoiled.nd rfl (Or.inl rfl)) (fun _ _ _ _ _ => pts_nil) (fun _ _ _ _ _ => (pv 9)))))) pss_nil)
  (pss_cut (ps_if (pt_cmpR op_eq (pv 1) pe_int (nomark _)) (pss_one (ps_set (i := 7) sc__law_spoiled.nd rfl (Or.inl rfl) (pe_op op_cat (pe_slice (r := rSlL K) sl_list (pv 7) po_none (po_some (pe_op op_add (pv 8) pe_int))) (pe_slice (r := rSlL K) sl_list (pv 7) (po_some (pv 8)) po_none)))) pss_nil)
  (pss_cut (ps_if (pt_cmpR op_eq (pv 1) pe_int (nomark _)) (pss_one (ps_set (i := 7) sc__law_spoiled.nd rfl (Or.inl rfl) (pe_op op_cat (pe_slice (r := rSlL K) sl_list (pv 7) po_none (po_some (pv 8))) (pe_slice (r := rSlL K) sl_list (pv 7) (po_some (pe_op op_add (pv 8) pe_int)) po_none)))) pss_nil)
  (pss_cut (ps_if (PW.pt (pw_and (pt_cmpR op_eq (pv 1) pe_int (nomark _)) (pw_and1 (pt_cmpR op_gt (pv 8) pe_int (nomark _))))) (pss_one (ps_asg (pe_op op_add_str (pe_op op_add_str (pe_slice sl_str (pe_ix (r := rIxL K) ix_list (pv 7) (pv 8) (fun _ _ => rfl)) (po_some pe_int) po_none) pe_str) (pe_slice sl_str (pe_ix (r := rIxL K) ix_list (pv 7) (pv 8) (fun _ _ => rfl)) po_none (po_some pe_int))) (pg_sub (pv 7) (pv 8) set_list))) pss_nil)
  (pss_one (ps_ret (pe_join pe_str (pv 7)))))))))))))))), ?_⟩
  try dsimp only [cxOf, Cx.nox, Cx.wish]
  cases ha with
  | cons h1 ha => cases ha with
  | cons h2 ha => cases ha with
  | cons h3 ha => cases ha with
  | cons h4 ha =>
  cases ha
  have h1 : Tp K B _ (dS t) := h1
  refine body_at (K := K) [dS t, .int way, .int cell, .int other] (.cons h1 (.cons h2 (.cons h3 (.cons h4 .nil)))) (L := [some (dS t), some (.int way), some (.int cell), some (.int other), none, none, none, none, none, none]) ?_
  have hlen := hp.len
  have p17 : (0 : Int) < 17 := by decide
  obtain ⟨sg, hsg⟩ := sgn_at (other % 17) (Int.emod_nonneg other (by decide)) (Int.emod_lt_of_pos other p17)
  (walk_at "s"); refine s_asg (ev_sc (a := sgns) rfl) ?_
  (walk_at "s"); refine s_asg (ev_ixS (a := sgns) (ev_var rfl) (ev_rI (ev_var rfl) ev_int p17 fun _ => .int _) (by decide) hsg) ?_
  have pl : (0 : Int) < (t.length : Int) + 1 := by omega
  have a1 := Int.emod_nonneg cell (show (t.length : Int) + 1 ≠ 0 by omega)
  have a2 := Int.emod_lt_of_pos cell pl
  (walk_at "s"); refine s_asg (ev_rI (ev_var rfl) (ev_rI0 (ev_lenS2 (ev_var rfl) (by omega)) ev_int fun _ => .int _) pl fun _ => .int _) ?_
  generalize cell % ((t.length : Int) + 1) = at' at a1 a2 ⊢
  obtain ⟨w0, ws0, hs0⟩ := spl_ne 32 t []
  have hfew := hp.few
  have hwds := hp.wds
  (walk_at "s"); refine s_asgN (ob := .lst ((TL.spl [32] 0 [] t).map dS)) (ev_splitS (ev_var rfl) (ev_sc (a := [32]) rfl) (by decide) (by omega)) fun q => ?_
  have n0 : 0 < (TL.spl [32] 0 [] t).length := by rw [hs0]; exact Nat.succ_pos _
  generalize TL.spl [32] 0 [] t = wl at hfew hwds n0 ⊢
  have pw : (0 : Int) < (wl.length : Int) := by omega
  have b1 := Int.emod_nonneg cell (show (wl.length : Int) ≠ 0 by omega)
  have b2 := Int.emod_lt_of_pos cell pw
  (walk_at "s"); refine s_asg (ev_rI (ev_var rfl) (Ev.isD (ev_lenL (ev_var rfl) (Ls.own (j := 0) rfl)) (by rw [List.length_map])) pw fun _ => .int _) ?_
  generalize cell % (wl.length : Int) = spot at b1 b2 ⊢
  (walk_at "s"); refine s_if (b := decide (way = 1)) (et_test (ev_eqI (ev_var rfl) ev_int)) (fun _ => ?_) fun _ => s_end ?_
  · (walk_at "s"); refine s_retW (ev_catS (ev_catS (ev_toS (k := at') (ev_var rfl) a1 (by omega) (ev_var rfl)) (ev_var rfl) ?_) (ev_fromS (k := at') (ev_var rfl) a1 (by omega) (ev_var rfl)) ?_) (fun σ H v s r => .of r ?_) hR
    all_goals (simp only [List.length_append, List.length_take, List.length_drop, List.length_cons, List.length_nil]; omega)
  (walk_at "s"); refine s_if (b := decide (way = 2)) (et_test (ev_eqI (ev_var rfl) ev_int)) (fun _ => ?_) fun _ => s_end ?_
  · (walk_at "s"); refine s_retW (ev_catS (ev_catS (ev_toS (k := at') (ev_var rfl) a1 (by omega) (ev_var rfl)) (ev_var rfl) ?_) (ev_fromS (k := at' + 1) (ev_var rfl) (by omega) (by omega) (ev_rI0 (ev_var rfl) ev_int fun _ => .int _)) ?_) (fun σ H v s r => .of r ?_) hR
    all_goals (simp only [List.length_append, List.length_take, List.length_drop, List.length_cons, List.length_nil]; omega)
  (walk_at "s"); refine s_if (b := decide (way = 3)) (et_test (ev_eqI (ev_var rfl) ev_int)) (fun _ => ?_) fun _ => s_end ?_
  · (walk_at "s"); refine s_retW (ev_catS (ev_toS (k := at') (ev_var rfl) a1 (by omega) (ev_var rfl)) (ev_fromS (k := at' + 1) (ev_var rfl) (by omega) (by omega) (ev_rI0 (ev_var rfl) ev_int fun _ => .int _)) ?_) (fun σ H v s r => .of r ?_) hR
    all_goals (simp only [List.length_append, List.length_take, List.length_drop, List.length_cons, List.length_nil]; omega)
  have slT : ∀ {O : Own} {L : Sl} {p : Addr} {us : List (List Nat)} {k : Int} {tb : TE}, O[0]? = some (p, Ob.lst (us.map dS)) → L[7]? = some (some (.adr p)) → 0 ≤ k → Ev K B O L tb (.dat (.int k)) → Ev K B O L (tSl (rSlL K) (tVar 7) tNoPart (tPart tb)) (.new (.lst ((us.take k.toNat).map dS))) := fun ho h hk hb => Ev.isL (ev_slL (ev_var h) (Ls.own (j := 0) ho) eo_none (eo_some hb)) (by rw [cutD_takeG hk, List.map_take])
  have slF : ∀ {O : Own} {L : Sl} {p : Addr} {us : List (List Nat)} {k : Int} {tb : TE}, O[0]? = some (p, Ob.lst (us.map dS)) → L[7]? = some (some (.adr p)) → 0 ≤ k → Ev K B O L tb (.dat (.int k)) → Ev K B O L (tSl (rSlL K) (tVar 7) (tPart tb) tNoPart) (.new (.lst ((us.drop k.toNat).map dS))) := fun ho h hk hb => Ev.isL (ev_slL (ev_var h) (Ls.own (j := 0) ho) (eo_some hb) eo_none) (by rw [cutD_dropG hk, List.map_drop])
  let LL : Addr → Sl := fun p => [some (dS t), some (.int way), some (.int cell), some (.int other), some (dS sgns), some (dS [sg]), some (.int at'), some (.adr p), some (.int spot), none]
  have memT : ∀ {us : List (List Nat)} {k : Nat}, (∀ v, v ∈ us → v.length ≤ 3) → ∀ v, v ∈ us.take k → v.length ≤ 3 := fun h v hv => h v (List.mem_of_mem_take hv)
  have memD : ∀ {us : List (List Nat)} {k : Nat}, (∀ v, v ∈ us → v.length ≤ 3) → ∀ v, v ∈ us.drop k → v.length ≤ 3 := fun h v hv => h v (List.mem_of_mem_drop hv)
  have memA : ∀ {us vs : List (List Nat)}, (∀ v, v ∈ us → v.length ≤ 3) → (∀ v, v ∈ vs → v.length ≤ 3) → ∀ v, v ∈ us ++ vs → v.length ≤ 3 := fun h k v hv => (List.mem_append.mp hv).elim (h v) (k v)
  -- way 4
  (walk_at "s"); refine s_cutE (ι := { x : List (List Nat) × Addr // x.1.length ≤ 40 ∧ Wds way wl.length x.1 }) (fun i => [(i.1.2, .lst (i.1.1.map dS))]) (fun i => LL i.1.2) ?_ ?_
  · (walk_at "s"); refine s_if (b := decide (way = 4)) (et_test (ev_eqI (ev_var rfl) ev_int)) (fun h => ?_) fun _ => s_end ?_
    · have h4 : way = 4 := of_decide_eq_true h
      (walk_at "s"); refine s_asgN (ob := .lst ((wl.take 1 ++ (wl.drop 1).reverse).map dS)) (Ev.isL (ev_cat (ds := (wl.take 1).map dS) (es := (wl.drop 1).reverse.map dS) (slT (k := 1) rfl rfl (by decide) ev_int) Lm.new (ev_lcRev (enc := dS) (ys := wl.drop 1) (slF (k := 1) rfl rfl (by decide) ev_int) (by rw [List.length_drop]; omega) (by show 9 < 10; omega)) Lm.new (by simp only [List.length_map, List.length_take, List.length_reverse, List.length_drop]; omega)) (by rw [List.map_append])) fun p => ?_
      refine s_sub (O' := [(p, .lst ((wl.take 1 ++ (wl.drop 1).reverse).map dS))]) (.cons _ (.cons₂ _ .slnil)) ?_
      refine s_okE ⟨(wl.take 1 ++ (wl.drop 1).reverse, p), ?_, ⟨?_, memA (memT hwds) (fun v hv => memD hwds v (List.mem_reverse.mp hv)), fun h => by omega⟩⟩ s_ok
      · simp only [List.length_append, List.length_take, List.length_reverse, List.length_drop]; omega
      · simp only [List.length_append, List.length_take, List.length_reverse, List.length_drop]; omega
    · exact s_okE ⟨(wl, q), hfew, ⟨by dsimp only; omega, hwds, fun _ => rfl⟩⟩ s_ok
  rintro ⟨⟨u1, p1⟩, c1, c2⟩
  dsimp only at c1 c2 ⊢
  -- way 5
  (walk_at "s"); refine s_cutE (ι := { x : List (List Nat) × Addr // x.1.length ≤ 41 ∧ Wds way wl.length x.1 }) (fun i => [(i.1.2, .lst (i.1.1.map dS))]) (fun i => LL i.1.2) ?_ ?_
  · (walk_at "s"); refine s_if (b := decide (way = 5)) (et_test (ev_eqI (ev_var rfl) ev_int)) (fun h => ?_) fun _ => s_end ?_
    · have h5 : way = 5 := of_decide_eq_true h
      (walk_at "s"); refine s_asgN (ob := .lst ((u1.take (spot + 1).toNat ++ u1.drop spot.toNat).map dS)) (Ev.isL (ev_cat (ds := (u1.take (spot + 1).toNat).map dS) (es := (u1.drop spot.toNat).map dS) (slT (k := spot + 1) rfl rfl (by omega) (ev_rI0 (ev_var rfl) ev_int fun _ => .int _)) Lm.new (slF (k := spot) rfl rfl b1 (ev_var rfl)) Lm.new (by simp only [List.length_map, List.length_take, List.length_drop]; omega)) (by rw [List.map_append])) fun p => ?_
      refine s_sub (O' := [(p, .lst ((u1.take (spot + 1).toNat ++ u1.drop spot.toNat).map dS))]) (.cons _ (.cons₂ _ .slnil)) ?_
      refine s_okE ⟨(u1.take (spot + 1).toNat ++ u1.drop spot.toNat, p), ?_, ⟨?_, memA (memT c2.wds) (memD c2.wds), fun h => by omega⟩⟩ s_ok
      · simp only [List.length_append, List.length_take, List.length_drop]; omega
      · simp only [List.length_append, List.length_take, List.length_drop]; omega
    · exact s_okE ⟨(u1, p1), by dsimp only; omega, c2⟩ s_ok
  rintro ⟨⟨u2, p2⟩, d1, d2⟩
  dsimp only at d1 d2 ⊢
  -- way 6
  (walk_at "s"); refine s_cutE (ι := Wp way wl.length) (fun i => [(i.1.2, .lst (i.1.1.map dS))]) (fun i => LL i.1.2) ?_ ?_
  · (walk_at "s"); refine s_if (b := decide (way = 6)) (et_test (ev_eqI (ev_var rfl) ev_int)) (fun h => ?_) fun _ => s_end ?_
    · have h6 : way = 6 := of_decide_eq_true h
      (walk_at "s"); refine s_asgN (ob := .lst ((u2.take spot.toNat ++ u2.drop (spot + 1).toNat).map dS)) (Ev.isL (ev_cat (ds := (u2.take spot.toNat).map dS) (es := (u2.drop (spot + 1).toNat).map dS) (slT (k := spot) rfl rfl b1 (ev_var rfl)) Lm.new (slF (k := spot + 1) rfl rfl (by omega) (ev_rI0 (ev_var rfl) ev_int fun _ => .int _)) Lm.new (by simp only [List.length_map, List.length_take, List.length_drop]; omega)) (by rw [List.map_append])) fun p => ?_
      refine s_sub (O' := [(p, .lst ((u2.take spot.toNat ++ u2.drop (spot + 1).toNat).map dS))]) (.cons _ (.cons₂ _ .slnil)) ?_
      refine s_okE ⟨(u2.take spot.toNat ++ u2.drop (spot + 1).toNat, p), ⟨?_, memA (memT d2.wds) (memD d2.wds), fun h => by omega⟩⟩ s_ok
      simp only [List.length_append, List.length_take, List.length_drop]; omega
    · exact s_okE ⟨(u2, p2), d2⟩ s_ok
  rintro ⟨⟨u3, p3⟩, e2⟩
  dsimp only at e2 ⊢
  -- way 7
  (walk_at "s"); refine s_cutE (ι := Wp way wl.length) (fun i => [(i.1.2, .lst (i.1.1.map dS))]) (fun i => LL i.1.2) ?_ ?_
  · (walk_at "s"); refine s_if (b := decide (way = 7) && decide (spot > 0)) (et_and (et_test (ev_eqI (ev_var rfl) ev_int)) fun _ => et_test (ev_rI0 (ev_var rfl) ev_int fun _ => .bl _)) (fun h => ?_) fun _ => s_end ?_
    · have h7 : way = 7 := by
        rw [Bool.and_eq_true] at h
        exact of_decide_eq_true h.1
      have hl3 := e2.same (by omega)
      obtain ⟨k, rfl⟩ := Int.eq_ofNat_of_zero_le b1
      have hk : k < u3.length := by omega
      have hv : u3[k].length ≤ 3 := e2.wds _ (List.getElem_mem hk)
      have eix : ∀ {L : Sl}, L[7]? = some (some (.adr p3)) → L[8]? = some (some (.int (k : Nat))) → Ev K B [(p3, Ob.lst (u3.map dS))] L (tOp (rIxL K) (tVar 7) (tVar 8)) (.dat (dS u3[k])) := fun h7 h8 => ev_ixL (ev_var h7) (Ls.own (j := 0) rfl) (ev_var h8) (atI_nat' (enc := dS) (xs := u3) (k := k) (List.getElem?_eq_getElem hk))
      generalize u3[k] = v at hv eix
      have h2 : (v.drop 2).length ≤ 3 := by rw [List.length_drop]; omega
      have h1 : (v.take 1).length ≤ 1 := by rw [List.length_take]; omega
      have hw : ((v.drop 2 ++ [45]) ++ v.take 1).length ≤ 3 := by
        simp only [List.length_append, List.length_take, List.length_drop, List.length_cons, List.length_nil]
        omega
      (walk_at "s"); refine s_setL (j := 0) (i := k) (k := (k : Nat)) (d := dS ((v.drop 2 ++ [45]) ++ v.take 1)) (ev_catS (ev_catS (ev_fromS (k := 2) (eix rfl rfl) (by decide) (by omega) ev_int) (ev_sc (a := [45]) rfl) (by simp only [List.length_drop, List.length_cons, List.length_nil]; omega)) (ev_toS (k := 1) (eix rfl rfl) (by decide) (by omega) ev_int) (by simp only [List.length_append, List.length_take, List.length_drop, List.length_cons, List.length_nil]; omega)) (ev_var rfl) rfl (ev_var rfl) (ixN_nat (by rw [List.length_map]; exact hk)) ?_
      have em : (u3.map dS).set k (dS ((v.drop 2 ++ [45]) ++ v.take 1)) = (u3.set k ((v.drop 2 ++ [45]) ++ v.take 1)).map dS := by rw [List.map_set]
      rw [em]
      refine s_okE ⟨(u3.set k ((v.drop 2 ++ [45]) ++ v.take 1), p3), ⟨by rw [List.length_set]; exact e2.few, fun x hx => ?_, fun h => by rw [List.length_set]; exact e2.same h⟩⟩ s_ok
      rcases List.mem_or_eq_of_mem_set hx with hx | hx
      · exact e2.wds x hx
      · rw [hx]
        exact hw
    · exact s_okE ⟨(u3, p3), e2⟩ s_ok
  rintro ⟨⟨u4, p4⟩, g2⟩
  dsimp only at g2 ⊢
  have gl := g2.few
  have hj := joinL_len 3 u4 g2.wds
  (walk_at "s"); refine s_retW (ev_joinS (a := [32]) (ws := u4) (m := 3) (ev_sc (a := [32]) rfl) (ev_var rfl) (Ls.own (j := 0) rfl) g2.wds (by simp only [List.length_cons, List.length_nil]; omega)) (fun σ H v s r => .of r (by omega)) hR
theorem ev_spoiled {B : Hp} {O : Own} {L : Sl} {ta tb tc td : TE} {E : XK} {t : List Nat} {i j k : Int} (h1 : Ev K B O L ta (.dat (dS t))) (h2 : Ev K B O L tb (.dat (.int i))) (h3 : Ev K B O L tc (.dat (.int j))) (h4 : Ev K B O L td (.dat (.int k))) (hp : Spoil t) : EvM K B O L (tCall (SpSpoil K) [] E (tCons ta (tCons tb (tCons tc (tCons td tNil))))) (TxtV K) :=
  ev_callM (t, i, j, k) (ea_cons h1 (ea_cons h2 (ea_cons h3 (ea_cons h4 ea_nil)))) hp (.cons .dat (.cons .dat (.cons .dat (.cons .dat .nil))))
end
end My

namespace My
open PySem PySem.Spec PyProof.Rows L2 GT SetX RevX
section
variable {P : Program} {w : World} {K : Fg} {mg : Str → Option Value} {base : Heap} {a : Adr}
theorem ok_law (T : Txt K mg a) {f : Addr} {fd : FuncData} (F : Fun K "law" "law" s_law f fd) : FnOk P w K mg base CX0 6 f fd ["script"] (SpLaw K) := by
  refine fun_ok F sc_law (fun _ => rfl) fun cdv A outer s B0 vs R E ns hr hn ha hR0 => ?_
  refine ⟨_, (pss_cons (ps_set (i := 1) sc_law.nd rfl (Or.inl rfl) (pe_op op_add pe_int (pe_op op_mod (Cal.pe (c__law_cell_at T) hr pass0 (pa_cons (pv 0) (pa_cons pe_int pa_nil))) pe_int)))
  (pss_cons (ps_set (i := 2) sc_law.nd rfl (Or.inl rfl) (pe_op op_mod (Cal.pe (c__law_cell_at T) hr pass0 (pa_cons (pv 0) (pa_cons pe_int pa_nil))) pe_int))
  (pss_cons (ps_set (i := 3) sc_law.nd rfl (Or.inl rfl) (Cal.pe (c__law_shown T) hr pass0 (pa_cons (Cal.pe (c__law_clashes T) hr pass0 (pa_cons (pv 0) (pa_cons pe_int (pa_cons (pv 1) pa_nil)))) (pa_cons (pv 1) pa_nil))))
  (pss_cons (ps_set (i := 3) sc_law.nd rfl (Or.inl rfl) (Cal.pe (c__law_spoiled T) hr pass0 (pa_cons (pv 3) (pa_cons (pv 2) (pa_cons (Cal.pe (c__law_cell_at T) hr pass0 (pa_cons (pv 0) (pa_cons pe_int pa_nil))) (pa_cons (Cal.pe (c__law_cell_at T) hr pass0 (pa_cons (pv 0) (pa_cons pe_int pa_nil))) pa_nil))))))
  (pss_cut (ps_if (pt_cmpR op_eq (pe_op op_mod (pe_op op_fdivW (Cal.pe (c__law_cell_at T) hr pass0 (pa_cons (pv 0) (pa_cons pe_int pa_nil))) pe_int) pe_int) pe_int (nomark _)) (pss_one (ps_set (i := 3) sc_law.nd rfl (Or.inl rfl) (Cal.pe (c__law_odd T) hr pass0 (pa_cons (Cal.pe (c__law_cell_at T) hr pass0 (pa_cons (pv 0) (pa_cons pe_int pa_nil))) pa_nil)))) pss_nil)
  (pss_cons (ps_set (i := 4) sc_law.nd rfl (Or.inl rfl) (Cal.pe (c__law_due T) hr pass0 (pa_cons (pv 3) pa_nil)))
  (pss_one (ps_ret (pe_and (Cal.pe (c__law_right T) hr pass0 (pa_cons (pv 3) (pa_cons (pv 4) pa_nil))) (pe_one (Cal.pe (c__law_right T) hr pass0 (pa_cons (pv 3) (pa_cons (pv 4) pa_nil))))))))))))), ?_⟩
  try dsimp only [cxOf, Cx.nox, Cx.wish]
  cases ha with
  | cons h1 ha =>
  cases ha
  obtain ⟨l, xs, rfl, hl1, hl2⟩ := h1
  have hl0 : LsR K B0 (.ref l) (ns.map .int) := ⟨l, xs, rfl, hl1, hl2⟩
  refine body_at (K := K) [.adr l] (.cons (.adr l) .nil) (L := [some (.adr l), none, none, none, none]) ?_
  have m1 := Int.emod_nonneg (cell ns 0) (show (6 : Int) ≠ 0 by decide)
  have m2 := Int.emod_lt_of_pos (cell ns 0) (show (0 : Int) < 6 by decide)
  obtain ⟨n, hnn⟩ : ∃ n : Nat, (n : Int) = 1 + cell ns 0 % 6 := ⟨(1 + cell ns 0 % 6).toNat, by omega⟩
  have n1 : 1 ≤ n := by omega
  have n6 : n ≤ 6 := by omega
  have p6 : (0 : Int) < 6 := by decide
  have p10 : (0 : Int) < 10 := by decide
  have p8 : (0 : Int) < 8 := by decide
  have d10 : CDivW (cell ns 3) 10 := divK (by decide) (by decide)
  (walk_at "s"); refine s_asg (d := .int n) (Ev.isD (d := .int (1 + cell ns 0 % 6)) ?_ (by rw [hnn])) ?_
  · have hl := hl0
    walk_at "ev"
  (walk_at "s"); refine s_asg (ev_rI (ev_cell (ev_var rfl) (Ls.base hl0) ev_int (by decide) hn) ev_int p10 fun _ => .int _) ?_
  have hcl := clashesL_ok (ns := ns) (st := 1) n6
  have hcll : (clashesL ns 1 n).length ≤ 30 := hcl.len
  (walk_at "s"); refine s_asg (ev_lshown (ev_cl (st := 1) (n := n) (ev_var rfl) (Ls.base hl0) ev_int (ev_var rfl) hn (by decide) n6) Ls.new (ev_var rfl) ⟨n6, by omega, hcl.ok⟩) ?_
  have hsp : Spoil (txtT n (srtU ((clashesL ns 1 n).map norm))) := by
    refine spoil_txt n6 ?_ fun p hp => ?_
    · have := srtU_len ((clashesL ns 1 n).map norm)
      rw [List.length_map] at this
      omega
    · obtain ⟨q, hq, rfl⟩ := List.mem_map.mp (srtU_mem.mp hp)
      have := norm_ok (hcl.ok q hq)
      unfold okF
      omega
  generalize txtT n (srtU ((clashesL ns 1 n).map norm)) = t0 at hsp ⊢
  (walk_at "s"); refine s_asgMD (ι := { t : List Nat // t.length ≤ 200 }) (d := fun t => dS t.1) (F := fun _ _ => True) (ev_spoiled (ev_var rfl) (ev_var rfl) (ev_cell (ev_var rfl) (Ls.base hl0) ev_int (by decide) hn) (ev_cell (ev_var rfl) (Ls.base hl0) ev_int (by decide) hn) hsp) (fun H v h => by
    obtain ⟨t, h1, h2⟩ := h
    exact ⟨⟨t, h2⟩, h1, trivial⟩) fun B1 t1 e1 _ => ?_
  have hl1 := hl0.same e1
  have hR1 := hR0.ground e1
  dsimp only
  (walk_at "s"); refine s_cutW (fun σ H => Same B1 H ∧ ∃ t : List Nat, t.length ≤ 200 ∧ Sat K H [] [some (.adr l), some (.int n), some (.int (cell ns 3 % 10)), some (dS t), none] σ H) ?_ ?_
  · (walk_at "s"); refine s_if (b := decide (cell ns 3 / 10 % 8 = 1)) (et_test (ev_eqI (ev_rI (ev_rI (ev_cell (ev_var rfl) (Ls.base hl1) ev_int (by decide) hn) ev_int d10 fun _ => .int _) ev_int p8 fun _ => .int _) ev_int)) (fun _ => ?_) fun _ => s_end ?_
    · (walk_at "s"); refine s_asgMD (ι := { t : List Nat // t.length ≤ 200 }) (d := fun t => dS t.1) (F := fun _ _ => True) (ev_odd (ev_cell (ev_var rfl) (Ls.base hl1) ev_int (by decide) hn)) (fun H v h => by
        obtain ⟨t, h1, h2⟩ := h
        exact ⟨⟨t, h2⟩, h1, trivial⟩) fun B2 t2 e2 _ => ?_
      exact fun σ H s => ⟨e2.trans s.ex, t2.1, t2.2, ⟨.refl H, fun p hp => absurd hp (by simp), by simp, s.len, s.loc⟩⟩
    · exact fun σ H s => ⟨s.ex, t1.1, t1.2, ⟨.refl H, fun p hp => absurd hp (by simp), by simp, s.len, s.loc⟩⟩
  rintro σ B2 ⟨e2, t, hlt, s2⟩
  have hR2 := hR1.ground e2
  refine (show Nx K B2 [] [some (.adr l), some (.int n), some (.int (cell ns 3 % 10)), some (dS t), none] _ from ?_) σ B2 s2
  clear hl1 hR1 e1 e2 s2 hsp hcl hcll
  cases ho : dueT t with
  | none =>
    (walk_at "s"); refine s_asgMD (ι := Unit) (d := fun _ => .non) (F := fun _ _ => True) (ev_due (ev_var rfl) hlt) (fun H v h => by
      rw [ho] at h
      cases h
      exact ⟨(), .non, trivial⟩) fun B3 _ e3 _ => ?_
    have hR := hR2.ground e3
    have hd : ∀ H v, Same B3 H → Tp K H v .non → DueV K (dueT t) H v := fun H v _ r => by
      rw [ho]
      cases r
      rfl
    (walk_at "s"); exact s_ret (Ev.isD (ev_andV (ev_right (ev_var rfl) (ev_var rfl) hd hlt) fun _ => ev_right (ev_var rfl) (ev_var rfl) hd hlt) rfl) hR
  | some x =>
    (walk_at "s"); refine s_asgMD (ι := Addr) (d := fun q => .tup [.int x.1, .adr q]) (F := fun q H => LsR K H (.ref q) (x.2.map dPr)) (ev_due (ev_var rfl) hlt) (fun H v h => by
      rw [ho] at h
      exact h) fun B3 q e3 hq => ?_
    have hR := hR2.ground e3
    have hd : ∀ H v, Same B3 H → Tp K H v (.tup [.int x.1, .adr q]) → DueV K (dueT t) H v := fun H v e r => by
      rw [ho]
      exact ⟨q, r, hq.same e⟩
    (walk_at "s"); exact s_ret (Ev.isD (ev_andV (ev_right (ev_var rfl) (ev_var rfl) hd hlt) fun _ => ev_right (ev_var rfl) (ev_var rfl) hd hlt) rfl) hR
end
end My

namespace My
open PySem PySem.Spec PyProof.Rows L2 GT
/-! ### what the top has written; the law's own head -/
theorem all_mk {l : PySem.W.OpenLaw} {w : World} {K : Fg} {h : Heap} {mg : Str → Option Value} {fa : Addr} (X : K.In h) (G : h.Ns mainGlobals mg) (hfa : mg "law" = some (.ref fa))
    {C_Crossing : Addr} {C_TurnError : Addr} {C_BadSize : Addr} {C_BadClash : Addr} {C_NoStream : Addr} {C_BadWish : Addr} {C_BadNote : Addr} {t_MOST : Tok} {t_FIGURES : Tok}
    {od1 an1 : Option Addr} {sl1 : Array (Option Value)} {oc1 kV1 dc1 pm1 cd1 ct1 : Value} {f1 : Addr}
    {od2 an2 : Option Addr} {sl2 : Array (Option Value)} {oc2 kV2 dc2 pm2 cd2 ct2 : Value} {f2 : Addr}
    {od3 an3 : Option Addr} {sl3 : Array (Option Value)} {oc3 kV3 dc3 pm3 cd3 ct3 : Value} {f3 : Addr}
    {od4 an4 : Option Addr} {sl4 : Array (Option Value)} {oc4 kV4 dc4 pm4 cd4 ct4 : Value} {f4 : Addr}
    {od5 an5 : Option Addr} {sl5 : Array (Option Value)} {oc5 kV5 dc5 pm5 cd5 ct5 : Value} {f5 : Addr}
    {od6 an6 : Option Addr} {sl6 : Array (Option Value)} {oc6 kV6 dc6 pm6 cd6 ct6 : Value} {f6 : Addr}
    {od7 an7 : Option Addr} {sl7 : Array (Option Value)} {oc7 kV7 dc7 pm7 cd7 ct7 : Value} {f7 : Addr}
    {od8 an8 : Option Addr} {sl8 : Array (Option Value)} {oc8 kV8 dc8 pm8 cd8 ct8 : Value} {f8 : Addr}
    {od9 an9 : Option Addr} {sl9 : Array (Option Value)} {oc9 kV9 dc9 pm9 cd9 ct9 : Value} {f9 : Addr}
    {od10 an10 : Option Addr} {sl10 : Array (Option Value)} {oc10 kV10 dc10 pm10 cd10 ct10 : Value} {f10 : Addr}
    {od11 an11 : Option Addr} {sl11 : Array (Option Value)} {oc11 kV11 dc11 pm11 cd11 ct11 : Value} {f11 : Addr}
    {od12 an12 : Option Addr} {sl12 : Array (Option Value)} {oc12 kV12 dc12 pm12 cd12 ct12 : Value} {f12 : Addr}
    {od13 an13 : Option Addr} {sl13 : Array (Option Value)} {oc13 kV13 dc13 pm13 cd13 ct13 : Value} {f13 : Addr}
    {od14 an14 : Option Addr} {sl14 : Array (Option Value)} {oc14 kV14 dc14 pm14 cd14 ct14 : Value} {f14 : Addr}
    {od15 an15 : Option Addr} {sl15 : Array (Option Value)} {oc15 kV15 dc15 pm15 cd15 ct15 : Value} {f15 : Addr}
    {od16 an16 : Option Addr} {sl16 : Array (Option Value)} {oc16 kV16 dc16 pm16 cd16 ct16 : Value} {f16 : Addr}
    {od17 an17 : Option Addr} {sl17 : Array (Option Value)} {oc17 kV17 dc17 pm17 cd17 ct17 : Value} {f17 : Addr}
    (g_Crossing : PySem.W.nsIn K mainGlobals "Crossing" = some (some (.ref C_Crossing)))
    (pg_Crossing : PySem.W.plainGet K C_Crossing Str.empty = true)
    (hd_Crossing : PySem.W.hasDictIn K C_Crossing = true)
    (po_Crossing : PySem.W.plainOver K C_Crossing = true)
    (sa_Crossing : PySem.W.findIn K (.ref C_Crossing) "__setattr__" = some (some (.builtin "object.__setattr__")))
    (kp_Crossing : PySem.W.keepIn K (.ref C_Crossing) = true)
    (ca_Crossing : PySem.W.findIn K (.ref C_Crossing) "__class__" = some (some (.builtin "object.__class__")))
    (cn_Crossing : PySem.W.specialIn K (.builtin "object.__class__") "__get__" = some (some (.builtin "getset_descriptor.__get__")))
    (ct_Crossing : PySem.W.takesIn K (.builtin "object.__class__") = some true)
    (cm_Crossing : PySem.W.mroIn K C_Crossing (.type "object") = some true)
    (n_Crossing_many : PySem.W.findIn K (.ref C_Crossing) "many" = some none)
    (n_Crossing_pairs : PySem.W.findIn K (.ref C_Crossing) "pairs" = some none)
    (g_TurnError : PySem.W.nsIn K mainGlobals "TurnError" = some (some (.ref C_TurnError)))
    (x_TurnError : PySem.W.excIn K C_TurnError [.type "ValueError", .type "Exception", .type "BaseException", .type "object"] "ValueError.__new__" = true)
    (kp_TurnError : PySem.W.keepIn K (.ref C_TurnError) = true)
    (b_TurnError : PySem.W.subIn K (.ref C_TurnError) (.type "BaseException") = some true)
    (t_TurnError : PySem.W.typeIn K (.ref C_TurnError) = some (.type "type"))
    (i_TurnError : PySem.W.isClsIn K C_TurnError = true)
    (g_BadSize : PySem.W.nsIn K mainGlobals "BadSize" = some (some (.ref C_BadSize)))
    (x_BadSize : PySem.W.excIn K C_BadSize [.type "ValueError", .type "Exception", .type "BaseException", .type "object"] "ValueError.__new__" = true)
    (kp_BadSize : PySem.W.keepIn K (.ref C_BadSize) = true)
    (b_BadSize : PySem.W.subIn K (.ref C_BadSize) (.type "BaseException") = some true)
    (t_BadSize : PySem.W.typeIn K (.ref C_BadSize) = some (.type "type"))
    (i_BadSize : PySem.W.isClsIn K C_BadSize = true)
    (g_BadClash : PySem.W.nsIn K mainGlobals "BadClash" = some (some (.ref C_BadClash)))
    (x_BadClash : PySem.W.excIn K C_BadClash [.type "ValueError", .type "Exception", .type "BaseException", .type "object"] "ValueError.__new__" = true)
    (kp_BadClash : PySem.W.keepIn K (.ref C_BadClash) = true)
    (b_BadClash : PySem.W.subIn K (.ref C_BadClash) (.type "BaseException") = some true)
    (t_BadClash : PySem.W.typeIn K (.ref C_BadClash) = some (.type "type"))
    (i_BadClash : PySem.W.isClsIn K C_BadClash = true)
    (g_NoStream : PySem.W.nsIn K mainGlobals "NoStream" = some (some (.ref C_NoStream)))
    (x_NoStream : PySem.W.excIn K C_NoStream [.type "ValueError", .type "Exception", .type "BaseException", .type "object"] "ValueError.__new__" = true)
    (kp_NoStream : PySem.W.keepIn K (.ref C_NoStream) = true)
    (b_NoStream : PySem.W.subIn K (.ref C_NoStream) (.type "BaseException") = some true)
    (t_NoStream : PySem.W.typeIn K (.ref C_NoStream) = some (.type "type"))
    (i_NoStream : PySem.W.isClsIn K C_NoStream = true)
    (g_BadWish : PySem.W.nsIn K mainGlobals "BadWish" = some (some (.ref C_BadWish)))
    (x_BadWish : PySem.W.excIn K C_BadWish [.type "ValueError", .type "Exception", .type "BaseException", .type "object"] "ValueError.__new__" = true)
    (kp_BadWish : PySem.W.keepIn K (.ref C_BadWish) = true)
    (b_BadWish : PySem.W.subIn K (.ref C_BadWish) (.type "BaseException") = some true)
    (t_BadWish : PySem.W.typeIn K (.ref C_BadWish) = some (.type "type"))
    (i_BadWish : PySem.W.isClsIn K C_BadWish = true)
    (g_BadNote : PySem.W.nsIn K mainGlobals "BadNote" = some (some (.ref C_BadNote)))
    (x_BadNote : PySem.W.excIn K C_BadNote [.type "ValueError", .type "Exception", .type "BaseException", .type "object"] "ValueError.__new__" = true)
    (kp_BadNote : PySem.W.keepIn K (.ref C_BadNote) = true)
    (b_BadNote : PySem.W.subIn K (.ref C_BadNote) (.type "BaseException") = some true)
    (t_BadNote : PySem.W.typeIn K (.ref C_BadNote) = some (.type "type"))
    (i_BadNote : PySem.W.isClsIn K C_BadNote = true)
    (eg_BadSize : PySem.W.findIn K (.ref C_BadSize) "__getattribute__" = some (some (.builtin "BaseException.__getattribute__")))
    (ek_BadSize : PySem.W.findIn K (.ref C_BadSize) "__getattr__" = some none)
    (ed_BadSize : PySem.W.hasDictIn K C_BadSize = true)
    (ea_BadSize : PySem.W.findIn K (.ref C_BadSize) "__class__" = some (some (.builtin "object.__class__")))
    (em_BadSize : PySem.W.mroIn K C_BadSize (.type "object") = some true)
    (s_BadSize_TurnError : PySem.W.subIn K (.ref C_BadSize) (.ref C_TurnError) = some true)
    (s_BadSize_BadSize : PySem.W.subIn K (.ref C_BadSize) (.ref C_BadSize) = some true)
    (s_BadSize_BadClash : PySem.W.subIn K (.ref C_BadSize) (.ref C_BadClash) = some false)
    (s_BadSize_NoStream : PySem.W.subIn K (.ref C_BadSize) (.ref C_NoStream) = some false)
    (s_BadSize_BadWish : PySem.W.subIn K (.ref C_BadSize) (.ref C_BadWish) = some false)
    (s_BadSize_BadNote : PySem.W.subIn K (.ref C_BadSize) (.ref C_BadNote) = some false)
    (v_BadSize : PySem.W.subIn K (.ref C_BadSize) (.type "ValueError") = some true)
    (eg_BadClash : PySem.W.findIn K (.ref C_BadClash) "__getattribute__" = some (some (.builtin "BaseException.__getattribute__")))
    (ek_BadClash : PySem.W.findIn K (.ref C_BadClash) "__getattr__" = some none)
    (ed_BadClash : PySem.W.hasDictIn K C_BadClash = true)
    (ea_BadClash : PySem.W.findIn K (.ref C_BadClash) "__class__" = some (some (.builtin "object.__class__")))
    (em_BadClash : PySem.W.mroIn K C_BadClash (.type "object") = some true)
    (s_BadClash_TurnError : PySem.W.subIn K (.ref C_BadClash) (.ref C_TurnError) = some true)
    (s_BadClash_BadSize : PySem.W.subIn K (.ref C_BadClash) (.ref C_BadSize) = some false)
    (s_BadClash_BadClash : PySem.W.subIn K (.ref C_BadClash) (.ref C_BadClash) = some true)
    (s_BadClash_NoStream : PySem.W.subIn K (.ref C_BadClash) (.ref C_NoStream) = some false)
    (s_BadClash_BadWish : PySem.W.subIn K (.ref C_BadClash) (.ref C_BadWish) = some false)
    (s_BadClash_BadNote : PySem.W.subIn K (.ref C_BadClash) (.ref C_BadNote) = some false)
    (v_BadClash : PySem.W.subIn K (.ref C_BadClash) (.type "ValueError") = some true)
    (eg_BadNote : PySem.W.findIn K (.ref C_BadNote) "__getattribute__" = some (some (.builtin "BaseException.__getattribute__")))
    (ek_BadNote : PySem.W.findIn K (.ref C_BadNote) "__getattr__" = some none)
    (ed_BadNote : PySem.W.hasDictIn K C_BadNote = true)
    (ea_BadNote : PySem.W.findIn K (.ref C_BadNote) "__class__" = some (some (.builtin "object.__class__")))
    (em_BadNote : PySem.W.mroIn K C_BadNote (.type "object") = some true)
    (s_BadNote_TurnError : PySem.W.subIn K (.ref C_BadNote) (.ref C_TurnError) = some true)
    (s_BadNote_BadSize : PySem.W.subIn K (.ref C_BadNote) (.ref C_BadSize) = some false)
    (s_BadNote_BadClash : PySem.W.subIn K (.ref C_BadNote) (.ref C_BadClash) = some false)
    (s_BadNote_NoStream : PySem.W.subIn K (.ref C_BadNote) (.ref C_NoStream) = some false)
    (s_BadNote_BadWish : PySem.W.subIn K (.ref C_BadNote) (.ref C_BadWish) = some false)
    (s_BadNote_BadNote : PySem.W.subIn K (.ref C_BadNote) (.ref C_BadNote) = some true)
    (v_BadNote : PySem.W.subIn K (.ref C_BadNote) (.type "ValueError") = some true)
    (en_ : PySem.W.specialIn K (.builtin "object.__class__") "__get__" = some (some (.builtin "getset_descriptor.__get__")))
    (et_ : PySem.W.takesIn K (.builtin "object.__class__") = some true)
    (hd_TurnError : PySem.W.hasDictIn K C_TurnError = true)
    (s_TurnError_TurnError : PySem.W.subIn K (.ref C_TurnError) (.ref C_TurnError) = some true)
    (s_NoStream_NoStream : PySem.W.subIn K (.ref C_NoStream) (.ref C_NoStream) = some true)
    (s_BadWish_BadWish : PySem.W.subIn K (.ref C_BadWish) (.ref C_BadWish) = some true)
    (g_MOST : PySem.W.nsIn K mainGlobals "MOST" = some (some (.int 6 t_MOST)))
    (g_FIGURES : PySem.W.nsIn K mainGlobals "FIGURES" = some (some (.str "0123456789" t_FIGURES)))
    (z_ValueError : PySem.W.nsIn K mainGlobals "ValueError" = some none)
    (z_isinstance : PySem.W.nsIn K mainGlobals "isinstance" = some none)
    (z_len : PySem.W.nsIn K mainGlobals "len" = some none)
    (z_max : PySem.W.nsIn K mainGlobals "max" = some none)
    (z_min : PySem.W.nsIn K mainGlobals "min" = some none)
    (z_range : PySem.W.nsIn K mainGlobals "range" = some none)
    (z_reversed : PySem.W.nsIn K mainGlobals "reversed" = some none)
    (z_set : PySem.W.nsIn K mainGlobals "set" = some none)
    (z_sorted : PySem.W.nsIn K mainGlobals "sorted" = some none)
    (z_str : PySem.W.nsIn K mainGlobals "str" = some none)
    (a1 : PySem.W.findIn K (.ref C_Crossing) "__init__" = some (some (.ref f1)))
    (l1 : K.lookup f1 = some ⟨oc1, od1, .func (PySem.W.fnOf "__init__" "Crossing.__init__" (defArgs s_Crossing___init__) (defBody s_Crossing___init__) (defScope s_Crossing___init__) .none kV1 dc1 pm1 an1 cd1 ct1), sl1⟩)
    (c1 : PySem.W.codeIn K cd1 "Crossing.__init__" = true)
    (k1 : PySem.W.keepIn K (.ref f1) = true)
    (mk1 : PySem.W.makesIn K C_Crossing = true)
    (fn1 : PySem.W.isFn K (.ref f1) = true)
    (a2 : PySem.W.findIn K (.ref C_Crossing) "size" = some (some (.ref f2)))
    (l2 : K.lookup f2 = some ⟨oc2, od2, .func (PySem.W.fnOf "size" "Crossing.size" (defArgs s_Crossing_size) (defBody s_Crossing_size) (defScope s_Crossing_size) .none kV2 dc2 pm2 an2 cd2 ct2), sl2⟩)
    (c2 : PySem.W.codeIn K cd2 "Crossing.size" = true)
    (k2 : PySem.W.keepIn K (.ref f2) = true)
    (fn2 : PySem.W.isFn K (.ref f2) = true)
    (a3 : PySem.W.findIn K (.ref C_Crossing) "clashes" = some (some (.ref f3)))
    (l3 : K.lookup f3 = some ⟨oc3, od3, .func (PySem.W.fnOf "clashes" "Crossing.clashes" (defArgs s_Crossing_clashes) (defBody s_Crossing_clashes) (defScope s_Crossing_clashes) .none kV3 dc3 pm3 an3 cd3 ct3), sl3⟩)
    (c3 : PySem.W.codeIn K cd3 "Crossing.clashes" = true)
    (k3 : PySem.W.keepIn K (.ref f3) = true)
    (fn3 : PySem.W.isFn K (.ref f3) = true)
    (a4 : PySem.W.nsIn K mainGlobals "shown" = some (some (.ref f4)))
    (l4 : K.lookup f4 = some ⟨oc4, od4, .func (PySem.W.fnOf "shown" "shown" (defArgs s_shown) (defBody s_shown) (defScope s_shown) .none kV4 dc4 pm4 an4 cd4 ct4), sl4⟩)
    (c4 : PySem.W.codeIn K cd4 "shown" = true)
    (k4 : PySem.W.keepIn K (.ref f4) = true)
    (a5 : PySem.W.nsIn K mainGlobals "number_of" = some (some (.ref f5)))
    (l5 : K.lookup f5 = some ⟨oc5, od5, .func (PySem.W.fnOf "number_of" "number_of" (defArgs s_number_of) (defBody s_number_of) (defScope s_number_of) .none kV5 dc5 pm5 an5 cd5 ct5), sl5⟩)
    (c5 : PySem.W.codeIn K cd5 "number_of" = true)
    (k5 : PySem.W.keepIn K (.ref f5) = true)
    (a6 : PySem.W.nsIn K mainGlobals "pair_of" = some (some (.ref f6)))
    (l6 : K.lookup f6 = some ⟨oc6, od6, .func (PySem.W.fnOf "pair_of" "pair_of" (defArgs s_pair_of) (defBody s_pair_of) (defScope s_pair_of) .none kV6 dc6 pm6 an6 cd6 ct6), sl6⟩)
    (c6 : PySem.W.codeIn K cd6 "pair_of" = true)
    (k6 : PySem.W.keepIn K (.ref f6) = true)
    (a7 : PySem.W.nsIn K mainGlobals "read" = some (some (.ref f7)))
    (l7 : K.lookup f7 = some ⟨oc7, od7, .func (PySem.W.fnOf "read" "read" (defArgs s_read) (defBody s_read) (defScope s_read) .none kV7 dc7 pm7 an7 cd7 ct7), sl7⟩)
    (c7 : PySem.W.codeIn K cd7 "read" = true)
    (k7 : PySem.W.keepIn K (.ref f7) = true)
    (a8 : PySem.W.nsIn K mainGlobals "_law_cell_at" = some (some (.ref f8)))
    (l8 : K.lookup f8 = some ⟨oc8, od8, .func (PySem.W.fnOf "_law_cell_at" "_law_cell_at" (defArgs s__law_cell_at) (defBody s__law_cell_at) (defScope s__law_cell_at) .none kV8 dc8 pm8 an8 cd8 ct8), sl8⟩)
    (c8 : PySem.W.codeIn K cd8 "_law_cell_at" = true)
    (k8 : PySem.W.keepIn K (.ref f8) = true)
    (a9 : PySem.W.nsIn K mainGlobals "_law_clashes" = some (some (.ref f9)))
    (l9 : K.lookup f9 = some ⟨oc9, od9, .func (PySem.W.fnOf "_law_clashes" "_law_clashes" (defArgs s__law_clashes) (defBody s__law_clashes) (defScope s__law_clashes) .none kV9 dc9 pm9 an9 cd9 ct9), sl9⟩)
    (c9 : PySem.W.codeIn K cd9 "_law_clashes" = true)
    (k9 : PySem.W.keepIn K (.ref f9) = true)
    (a10 : PySem.W.nsIn K mainGlobals "_law_ring" = some (some (.ref f10)))
    (l10 : K.lookup f10 = some ⟨oc10, od10, .func (PySem.W.fnOf "_law_ring" "_law_ring" (defArgs s__law_ring) (defBody s__law_ring) (defScope s__law_ring) .none kV10 dc10 pm10 an10 cd10 ct10), sl10⟩)
    (c10 : PySem.W.codeIn K cd10 "_law_ring" = true)
    (k10 : PySem.W.keepIn K (.ref f10) = true)
    (a11 : PySem.W.nsIn K mainGlobals "_law_shown" = some (some (.ref f11)))
    (l11 : K.lookup f11 = some ⟨oc11, od11, .func (PySem.W.fnOf "_law_shown" "_law_shown" (defArgs s__law_shown) (defBody s__law_shown) (defScope s__law_shown) .none kV11 dc11 pm11 an11 cd11 ct11), sl11⟩)
    (c11 : PySem.W.codeIn K cd11 "_law_shown" = true)
    (k11 : PySem.W.keepIn K (.ref f11) = true)
    (a12 : PySem.W.nsIn K mainGlobals "_law_spoiled" = some (some (.ref f12)))
    (l12 : K.lookup f12 = some ⟨oc12, od12, .func (PySem.W.fnOf "_law_spoiled" "_law_spoiled" (defArgs s__law_spoiled) (defBody s__law_spoiled) (defScope s__law_spoiled) .none kV12 dc12 pm12 an12 cd12 ct12), sl12⟩)
    (c12 : PySem.W.codeIn K cd12 "_law_spoiled" = true)
    (k12 : PySem.W.keepIn K (.ref f12) = true)
    (a13 : PySem.W.nsIn K mainGlobals "_law_odd" = some (some (.ref f13)))
    (l13 : K.lookup f13 = some ⟨oc13, od13, .func (PySem.W.fnOf "_law_odd" "_law_odd" (defArgs s__law_odd) (defBody s__law_odd) (defScope s__law_odd) .none kV13 dc13 pm13 an13 cd13 ct13), sl13⟩)
    (c13 : PySem.W.codeIn K cd13 "_law_odd" = true)
    (k13 : PySem.W.keepIn K (.ref f13) = true)
    (a14 : PySem.W.nsIn K mainGlobals "_law_due" = some (some (.ref f14)))
    (l14 : K.lookup f14 = some ⟨oc14, od14, .func (PySem.W.fnOf "_law_due" "_law_due" (defArgs s__law_due) (defBody s__law_due) (defScope s__law_due) .none kV14 dc14 pm14 an14 cd14 ct14), sl14⟩)
    (c14 : PySem.W.codeIn K cd14 "_law_due" = true)
    (k14 : PySem.W.keepIn K (.ref f14) = true)
    (a15 : PySem.W.nsIn K mainGlobals "_law_told" = some (some (.ref f15)))
    (l15 : K.lookup f15 = some ⟨oc15, od15, .func (PySem.W.fnOf "_law_told" "_law_told" (defArgs s__law_told) (defBody s__law_told) (defScope s__law_told) .none kV15 dc15 pm15 an15 cd15 ct15), sl15⟩)
    (c15 : PySem.W.codeIn K cd15 "_law_told" = true)
    (k15 : PySem.W.keepIn K (.ref f15) = true)
    (a16 : PySem.W.nsIn K mainGlobals "_law_right" = some (some (.ref f16)))
    (l16 : K.lookup f16 = some ⟨oc16, od16, .func (PySem.W.fnOf "_law_right" "_law_right" (defArgs s__law_right) (defBody s__law_right) (defScope s__law_right) .none kV16 dc16 pm16 an16 cd16 ct16), sl16⟩)
    (c16 : PySem.W.codeIn K cd16 "_law_right" = true)
    (k16 : PySem.W.keepIn K (.ref f16) = true)
    (a17 : PySem.W.nsIn K mainGlobals "law" = some (some (.ref f17)))
    (l17 : K.lookup f17 = some ⟨oc17, od17, .func (PySem.W.fnOf "law" "law" (defArgs s_law) (defBody s_law) (defScope s_law) .none kV17 dc17 pm17 an17 cd17 ct17), sl17⟩)
    (c17 : PySem.W.codeIn K cd17 "law" = true)
    (k17 : PySem.W.keepIn K (.ref f17) = true)
    : ∃ fd : FuncData, (∀ (s : Shared) (v : Value), BindsTo s fd ⟨[v], []⟩ [("script", v)]) ∧ ∀ base : Heap, K.In base → base.Ns mainGlobals mg → FnOk l.prog w K mg base CX0 6 fa fd ["script"] (SpLaw K) := by
  have e := hfa.symm.trans (PySem.W.mg_of X G a17)
  cases e
  have cls_Crossing : Cls K C_Crossing := ⟨pg_Crossing, hd_Crossing, po_Crossing, sa_Crossing⟩
  have T : Txt K mg ⟨C_TurnError, C_BadSize, C_BadClash, C_NoStream, C_BadWish, C_BadNote, C_Crossing⟩ := {
    i_Crossing := ⟨_, _, (fun_mk (st := s_Crossing___init__) l1 c1 k1), ⟨mk1, a1, fn1, kp_Crossing⟩, ((fun_mk (st := s_Crossing___init__) l1 c1 k1).binds (ps := ["self", "streams", "clashes"]) fun _ _ _ _ _ _ us hl => match us, hl with | [_, _, _], _ => rfl)⟩,
    m_Crossing_size := ⟨cls_Crossing, _, _, (fun_mk (st := s_Crossing_size) l2 c2 k2), ⟨a2, fn2, k2⟩, ((fun_mk (st := s_Crossing_size) l2 c2 k2).binds (ps := ["self"]) fun _ _ _ _ _ _ us hl => match us, hl with | [_], _ => rfl)⟩,
    m_Crossing_clashes := ⟨cls_Crossing, _, _, (fun_mk (st := s_Crossing_clashes) l3 c3 k3), ⟨a3, fn3, k3⟩, ((fun_mk (st := s_Crossing_clashes) l3 c3 k3).binds (ps := ["self"]) fun _ _ _ _ _ _ us hl => match us, hl with | [_], _ => rfl)⟩,
    f_shown := ⟨_, _, (fun_mk (st := s_shown) l4 c4 k4), PySem.W.mg_of X G a4, ((fun_mk (st := s_shown) l4 c4 k4).binds (ps := ["crossing"]) fun _ _ _ _ _ _ us hl => match us, hl with | [_], _ => rfl)⟩,
    f_number_of := ⟨_, _, (fun_mk (st := s_number_of) l5 c5 k5), PySem.W.mg_of X G a5, ((fun_mk (st := s_number_of) l5 c5 k5).binds (ps := ["word"]) fun _ _ _ _ _ _ us hl => match us, hl with | [_], _ => rfl)⟩,
    f_pair_of := ⟨_, _, (fun_mk (st := s_pair_of) l6 c6 k6), PySem.W.mg_of X G a6, ((fun_mk (st := s_pair_of) l6 c6 k6).binds (ps := ["word"]) fun _ _ _ _ _ _ us hl => match us, hl with | [_], _ => rfl)⟩,
    f_read := ⟨_, _, (fun_mk (st := s_read) l7 c7 k7), PySem.W.mg_of X G a7, ((fun_mk (st := s_read) l7 c7 k7).binds (ps := ["text"]) fun _ _ _ _ _ _ us hl => match us, hl with | [_], _ => rfl)⟩,
    f__law_cell_at := ⟨_, _, (fun_mk (st := s__law_cell_at) l8 c8 k8), PySem.W.mg_of X G a8, ((fun_mk (st := s__law_cell_at) l8 c8 k8).binds (ps := ["script", "k"]) fun _ _ _ _ _ _ us hl => match us, hl with | [_, _], _ => rfl)⟩,
    f__law_clashes := ⟨_, _, (fun_mk (st := s__law_clashes) l9 c9 k9), PySem.W.mg_of X G a9, ((fun_mk (st := s__law_clashes) l9 c9 k9).binds (ps := ["script", "start", "streams"]) fun _ _ _ _ _ _ us hl => match us, hl with | [_, _, _], _ => rfl)⟩,
    f__law_ring := ⟨_, _, (fun_mk (st := s__law_ring) l10 c10 k10), PySem.W.mg_of X G a10, ((fun_mk (st := s__law_ring) l10 c10 k10).binds (ps := ["cell", "streams"]) fun _ _ _ _ _ _ us hl => match us, hl with | [_, _], _ => rfl)⟩,
    f__law_shown := ⟨_, _, (fun_mk (st := s__law_shown) l11 c11 k11), PySem.W.mg_of X G a11, ((fun_mk (st := s__law_shown) l11 c11 k11).binds (ps := ["clashes", "streams"]) fun _ _ _ _ _ _ us hl => match us, hl with | [_, _], _ => rfl)⟩,
    f__law_spoiled := ⟨_, _, (fun_mk (st := s__law_spoiled) l12 c12 k12), PySem.W.mg_of X G a12, ((fun_mk (st := s__law_spoiled) l12 c12 k12).binds (ps := ["text", "way", "cell", "other"]) fun _ _ _ _ _ _ us hl => match us, hl with | [_, _, _, _], _ => rfl)⟩,
    f__law_odd := ⟨_, _, (fun_mk (st := s__law_odd) l13 c13 k13), PySem.W.mg_of X G a13, ((fun_mk (st := s__law_odd) l13 c13 k13).binds (ps := ["cell"]) fun _ _ _ _ _ _ us hl => match us, hl with | [_], _ => rfl)⟩,
    f__law_due := ⟨_, _, (fun_mk (st := s__law_due) l14 c14 k14), PySem.W.mg_of X G a14, ((fun_mk (st := s__law_due) l14 c14 k14).binds (ps := ["text"]) fun _ _ _ _ _ _ us hl => match us, hl with | [_], _ => rfl)⟩,
    f__law_told := ⟨_, _, (fun_mk (st := s__law_told) l15 c15 k15), PySem.W.mg_of X G a15, ((fun_mk (st := s__law_told) l15 c15 k15).binds (ps := ["text"]) fun _ _ _ _ _ _ us hl => match us, hl with | [_], _ => rfl)⟩,
    f__law_right := ⟨_, _, (fun_mk (st := s__law_right) l16 c16 k16), PySem.W.mg_of X G a16, ((fun_mk (st := s__law_right) l16 c16 k16).binds (ps := ["text", "due"]) fun _ _ _ _ _ _ us hl => match us, hl with | [_, _], _ => rfl)⟩,
    f_law := ⟨_, _, (fun_mk (st := s_law) l17 c17 k17), PySem.W.mg_of X G a17, ((fun_mk (st := s_law) l17 c17 k17).binds (ps := ["script"]) fun _ _ _ _ _ _ us hl => match us, hl with | [_], _ => rfl)⟩,
    g_Crossing := PySem.W.mg_of X G g_Crossing,
    cls_Crossing := cls_Crossing,
    isi_Crossing := fun H b dx fs e => .ins e cls_Crossing ca_Crossing cn_Crossing ct_Crossing cm_Crossing,
    n_Crossing_many := n_Crossing_many,
    n_Crossing_pairs := n_Crossing_pairs,
    x_TurnError := ⟨PySem.W.mg_of X G g_TurnError, x_TurnError, kp_TurnError, b_TurnError, t_TurnError, i_TurnError⟩,
    g_TurnError := PySem.W.mg_of X G g_TurnError,
    x_BadSize := ⟨PySem.W.mg_of X G g_BadSize, x_BadSize, kp_BadSize, b_BadSize, t_BadSize, i_BadSize⟩,
    g_BadSize := PySem.W.mg_of X G g_BadSize,
    x_BadClash := ⟨PySem.W.mg_of X G g_BadClash, x_BadClash, kp_BadClash, b_BadClash, t_BadClash, i_BadClash⟩,
    g_BadClash := PySem.W.mg_of X G g_BadClash,
    x_NoStream := ⟨PySem.W.mg_of X G g_NoStream, x_NoStream, kp_NoStream, b_NoStream, t_NoStream, i_NoStream⟩,
    g_NoStream := PySem.W.mg_of X G g_NoStream,
    x_BadWish := ⟨PySem.W.mg_of X G g_BadWish, x_BadWish, kp_BadWish, b_BadWish, t_BadWish, i_BadWish⟩,
    g_BadWish := PySem.W.mg_of X G g_BadWish,
    x_BadNote := ⟨PySem.W.mg_of X G g_BadNote, x_BadNote, kp_BadNote, b_BadNote, t_BadNote, i_BadNote⟩,
    g_BadNote := PySem.W.mg_of X G g_BadNote,
    e_BadSize := ⟨eg_BadSize, ek_BadSize, b_BadSize, ed_BadSize, ea_BadSize, en_, et_, em_BadSize⟩,
    s_BadSize_TurnError := s_BadSize_TurnError,
    s_BadSize_BadSize := s_BadSize_BadSize,
    s_BadSize_BadClash := s_BadSize_BadClash,
    s_BadSize_NoStream := s_BadSize_NoStream,
    s_BadSize_BadWish := s_BadSize_BadWish,
    s_BadSize_BadNote := s_BadSize_BadNote,
    v_BadSize := v_BadSize,
    e_BadClash := ⟨eg_BadClash, ek_BadClash, b_BadClash, ed_BadClash, ea_BadClash, en_, et_, em_BadClash⟩,
    s_BadClash_TurnError := s_BadClash_TurnError,
    s_BadClash_BadSize := s_BadClash_BadSize,
    s_BadClash_BadClash := s_BadClash_BadClash,
    s_BadClash_NoStream := s_BadClash_NoStream,
    s_BadClash_BadWish := s_BadClash_BadWish,
    s_BadClash_BadNote := s_BadClash_BadNote,
    v_BadClash := v_BadClash,
    e_BadNote := ⟨eg_BadNote, ek_BadNote, b_BadNote, ed_BadNote, ea_BadNote, en_, et_, em_BadNote⟩,
    s_BadNote_TurnError := s_BadNote_TurnError,
    s_BadNote_BadSize := s_BadNote_BadSize,
    s_BadNote_BadClash := s_BadNote_BadClash,
    s_BadNote_NoStream := s_BadNote_NoStream,
    s_BadNote_BadWish := s_BadNote_BadWish,
    s_BadNote_BadNote := s_BadNote_BadNote,
    v_BadNote := v_BadNote,
    hd_TurnError := hd_TurnError,
    hd_BadSize := ed_BadSize,
    hd_BadClash := ed_BadClash,
    hd_BadNote := ed_BadNote,
    s_TurnError_TurnError := s_TurnError_TurnError,
    s_NoStream_NoStream := s_NoStream_NoStream,
    s_BadWish_BadWish := s_BadWish_BadWish,
    g_MOST := ⟨_, PySem.W.mg_of X G g_MOST⟩,
    g_FIGURES := ⟨_, PySem.W.mg_of X G g_FIGURES⟩,
    z_ValueError := PySem.W.mg_none_of X G z_ValueError,
    z_isinstance := PySem.W.mg_none_of X G z_isinstance,
    z_len := PySem.W.mg_none_of X G z_len,
    z_max := PySem.W.mg_none_of X G z_max,
    z_min := PySem.W.mg_none_of X G z_min,
    z_range := PySem.W.mg_none_of X G z_range,
    z_reversed := PySem.W.mg_none_of X G z_reversed,
    z_set := PySem.W.mg_none_of X G z_set,
    z_sorted := PySem.W.mg_none_of X G z_sorted,
    z_str := PySem.W.mg_none_of X G z_str }
  exact ⟨_, fun s v => .of_eq rfl, fun base _ _ => ok_law T (fun_mk (st := s_law) l17 c17 k17)⟩
end My
open PySem PySem.W PyProof.Rows
set_option maxRecDepth 100000 in
set_option maxHeartbeats 0 in
theorem PySem.Challenge.cw_greenturns_k10_texts_read_holds : PySem.Challenge.rw_greenturns_k10_texts_read.Holds := by
  w_on; o_law; k_head; (case hw => w_witness2)
  k_fill
  refine L2.walk_ofK (l := PySem.Challenge.rw_greenturns_k10_texts_read) (n := 63) (k := 6) (x := "script") (CX := L2.CX0) (sp := GT.SpLaw) rfl (by decide) rfl ⟨rfl, by decide, by decide⟩ (fun w h Y => PySem.W.kIn_of Y) ?F (fun K H a ns hl _ hS => GT.spLaw_of K H a ns hl hS) (fun _ _ _ _ h => h)
  case F =>
    intro w mg fa h KX G hmg
    refine' My.all_mk KX G hmg ?g_Crossing ?pg_Crossing ?hd_Crossing ?po_Crossing ?sa_Crossing ?kp_Crossing ?ca_Crossing ?cn_Crossing ?ct_Crossing ?cm_Crossing ?n_Crossing_many ?n_Crossing_pairs ?g_TurnError ?x_TurnError ?kp_TurnError ?b_TurnError ?t_TurnError ?i_TurnError ?g_BadSize ?x_BadSize ?kp_BadSize ?b_BadSize ?t_BadSize ?i_BadSize ?g_BadClash ?x_BadClash ?kp_BadClash ?b_BadClash ?t_BadClash ?i_BadClash ?g_NoStream ?x_NoStream ?kp_NoStream ?b_NoStream ?t_NoStream ?i_NoStream ?g_BadWish ?x_BadWish ?kp_BadWish ?b_BadWish ?t_BadWish ?i_BadWish ?g_BadNote ?x_BadNote ?kp_BadNote ?b_BadNote ?t_BadNote ?i_BadNote ?eg_BadSize ?ek_BadSize ?ed_BadSize ?ea_BadSize ?em_BadSize ?s_BadSize_TurnError ?s_BadSize_BadSize ?s_BadSize_BadClash ?s_BadSize_NoStream ?s_BadSize_BadWish ?s_BadSize_BadNote ?v_BadSize ?eg_BadClash ?ek_BadClash ?ed_BadClash ?ea_BadClash ?em_BadClash ?s_BadClash_TurnError ?s_BadClash_BadSize ?s_BadClash_BadClash ?s_BadClash_NoStream ?s_BadClash_BadWish ?s_BadClash_BadNote ?v_BadClash ?eg_BadNote ?ek_BadNote ?ed_BadNote ?ea_BadNote ?em_BadNote ?s_BadNote_TurnError ?s_BadNote_BadSize ?s_BadNote_BadClash ?s_BadNote_NoStream ?s_BadNote_BadWish ?s_BadNote_BadNote ?v_BadNote ?en_ ?et_ ?hd_TurnError ?s_TurnError_TurnError ?s_NoStream_NoStream ?s_BadWish_BadWish ?g_MOST ?g_FIGURES ?z_ValueError ?z_isinstance ?z_len ?z_max ?z_min ?z_range ?z_reversed ?z_set ?z_sorted ?z_str ?a1 ?l1 ?c1 ?k1 ?mk1 ?fn1 ?a2 ?l2 ?c2 ?k2 ?fn2 ?a3 ?l3 ?c3 ?k3 ?fn3 ?a4 ?l4 ?c4 ?k4 ?a5 ?l5 ?c5 ?k5 ?a6 ?l6 ?c6 ?k6 ?a7 ?l7 ?c7 ?k7 ?a8 ?l8 ?c8 ?k8 ?a9 ?l9 ?c9 ?k9 ?a10 ?l10 ?c10 ?k10 ?a11 ?l11 ?c11 ?k11 ?a12 ?l12 ?c12 ?k12 ?a13 ?l13 ?c13 ?k13 ?a14 ?l14 ?c14 ?k14 ?a15 ?l15 ?c15 ?k15 ?a16 ?l16 ?c16 ?k16 ?a17 ?l17 ?c17 ?k17
    (case g_Crossing => k_is)
    (case pg_Crossing => k_is)
    (case hd_Crossing => k_is)
    (case po_Crossing => k_is)
    (case sa_Crossing => k_is)
    (case kp_Crossing => k_is)
    (case ca_Crossing => k_is)
    (case cn_Crossing => k_is)
    (case ct_Crossing => k_is)
    (case cm_Crossing => k_is)
    (case n_Crossing_many => k_is)
    (case n_Crossing_pairs => k_is)
    (case g_TurnError => k_is)
    (case x_TurnError => k_exc)
    (case kp_TurnError => k_is)
    (case b_TurnError => k_is)
    (case t_TurnError => k_is)
    (case i_TurnError => k_is)
    (case g_BadSize => k_is)
    (case x_BadSize => k_exc)
    (case kp_BadSize => k_is)
    (case b_BadSize => k_is)
    (case t_BadSize => k_is)
    (case i_BadSize => k_is)
    (case g_BadClash => k_is)
    (case x_BadClash => k_exc)
    (case kp_BadClash => k_is)
    (case b_BadClash => k_is)
    (case t_BadClash => k_is)
    (case i_BadClash => k_is)
    (case g_NoStream => k_is)
    (case x_NoStream => k_exc)
    (case kp_NoStream => k_is)
    (case b_NoStream => k_is)
    (case t_NoStream => k_is)
    (case i_NoStream => k_is)
    (case g_BadWish => k_is)
    (case x_BadWish => k_exc)
    (case kp_BadWish => k_is)
    (case b_BadWish => k_is)
    (case t_BadWish => k_is)
    (case i_BadWish => k_is)
    (case g_BadNote => k_is)
    (case x_BadNote => k_exc)
    (case kp_BadNote => k_is)
    (case b_BadNote => k_is)
    (case t_BadNote => k_is)
    (case i_BadNote => k_is)
    (case eg_BadSize => k_is)
    (case ek_BadSize => k_is)
    (case ed_BadSize => k_is)
    (case ea_BadSize => k_is)
    (case em_BadSize => k_is)
    (case s_BadSize_TurnError => k_is)
    (case s_BadSize_BadSize => k_is)
    (case s_BadSize_BadClash => k_is)
    (case s_BadSize_NoStream => k_is)
    (case s_BadSize_BadWish => k_is)
    (case s_BadSize_BadNote => k_is)
    (case v_BadSize => k_is)
    (case eg_BadClash => k_is)
    (case ek_BadClash => k_is)
    (case ed_BadClash => k_is)
    (case ea_BadClash => k_is)
    (case em_BadClash => k_is)
    (case s_BadClash_TurnError => k_is)
    (case s_BadClash_BadSize => k_is)
    (case s_BadClash_BadClash => k_is)
    (case s_BadClash_NoStream => k_is)
    (case s_BadClash_BadWish => k_is)
    (case s_BadClash_BadNote => k_is)
    (case v_BadClash => k_is)
    (case eg_BadNote => k_is)
    (case ek_BadNote => k_is)
    (case ed_BadNote => k_is)
    (case ea_BadNote => k_is)
    (case em_BadNote => k_is)
    (case s_BadNote_TurnError => k_is)
    (case s_BadNote_BadSize => k_is)
    (case s_BadNote_BadClash => k_is)
    (case s_BadNote_NoStream => k_is)
    (case s_BadNote_BadWish => k_is)
    (case s_BadNote_BadNote => k_is)
    (case v_BadNote => k_is)
    (case en_ => k_is)
    (case et_ => k_is)
    (case hd_TurnError => k_is)
    (case s_TurnError_TurnError => k_is)
    (case s_NoStream_NoStream => k_is)
    (case s_BadWish_BadWish => k_is)
    (case g_MOST => k_is)
    (case g_FIGURES => k_is)
    (case z_ValueError => k_is)
    (case z_isinstance => k_is)
    (case z_len => k_is)
    (case z_max => k_is)
    (case z_min => k_is)
    (case z_range => k_is)
    (case z_reversed => k_is)
    (case z_set => k_is)
    (case z_sorted => k_is)
    (case z_str => k_is)
    (case a1 => k_is)
    (case l1 => k_is)
    (case c1 => k_is)
    (case k1 => k_is)
    (case mk1 => k_is)
    (case fn1 => k_is)
    (case a2 => k_is)
    (case l2 => k_is)
    (case c2 => k_is)
    (case k2 => k_is)
    (case fn2 => k_is)
    (case a3 => k_is)
    (case l3 => k_is)
    (case c3 => k_is)
    (case k3 => k_is)
    (case fn3 => k_is)
    (case a4 => k_is)
    (case l4 => k_is)
    (case c4 => k_is)
    (case k4 => k_is)
    (case a5 => k_is)
    (case l5 => k_is)
    (case c5 => k_is)
    (case k5 => k_is)
    (case a6 => k_is)
    (case l6 => k_is)
    (case c6 => k_is)
    (case k6 => k_is)
    (case a7 => k_is)
    (case l7 => k_is)
    (case c7 => k_is)
    (case k7 => k_is)
    (case a8 => k_is)
    (case l8 => k_is)
    (case c8 => k_is)
    (case k8 => k_is)
    (case a9 => k_is)
    (case l9 => k_is)
    (case c9 => k_is)
    (case k9 => k_is)
    (case a10 => k_is)
    (case l10 => k_is)
    (case c10 => k_is)
    (case k10 => k_is)
    (case a11 => k_is)
    (case l11 => k_is)
    (case c11 => k_is)
    (case k11 => k_is)
    (case a12 => k_is)
    (case l12 => k_is)
    (case c12 => k_is)
    (case k12 => k_is)
    (case a13 => k_is)
    (case l13 => k_is)
    (case c13 => k_is)
    (case k13 => k_is)
    (case a14 => k_is)
    (case l14 => k_is)
    (case c14 => k_is)
    (case k14 => k_is)
    (case a15 => k_is)
    (case l15 => k_is)
    (case c15 => k_is)
    (case k15 => k_is)
    (case a16 => k_is)
    (case l16 => k_is)
    (case c16 => k_is)
    (case k16 => k_is)
    (case a17 => k_is)
    (case l17 => k_is)
    (case c17 => k_is)
    (case k17 => k_is)
#print axioms PySem.Challenge.cw_greenturns_k10_texts_read_holds
