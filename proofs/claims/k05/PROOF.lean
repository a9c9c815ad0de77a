import PyProof.Rows.All
import Wide.All
import OpenK.AllK
import Wide.FinOn
import HandS.ForMost
import HandS.ForExc
import HandS.Wide
import HandS.TupAny
import HandS.IsInst
import PySem.Challenge.RW_greenturns_k05_the_longest_wait
set_option Elab.async false
set_option linter.all false
set_option maxRecDepth 100000
set_option maxHeartbeats 4000000
/-! GT: a symbolic layer over the hand layer: data of scalars and tuples (Dt), own objects (Ob), what a frame knows (Sat), what an expression gives (Ev), a statement's goal (Nx). -/
namespace GT
open PySem L2
abbrev Fg := PySem.W.Frag
/-- data: scalars, tuples, references -/
inductive Dt where
  | non | bl (b : Bool) | int (i : Int) | str (x : Str) | tup (ds : List Dt) | adr (a : Addr)
/-- what is never changed stays -/
def Keep (H H' : Hp) : Prop := ∀ a o, H a = some o → ¬ Mut (some o) → H' a = some o
theorem Keep.refl (H : Hp) : Keep H H := fun _ _ h _ => h
theorem Keep.trans {H H1 H2 : Hp} (a : Keep H H1) (b : Keep H1 H2) : Keep H H2 := fun x o h n => b x o (a x o h n) n
theorem Keep.of {H H' : Hp} (e : Same H H') : Keep H H' := fun a o h _ => e a o h
theorem Keep.mut {H : Hp} {a : Addr} {o : HO} (m : Mut (H a)) : Keep H (upd H a o) := fun b u h n => by
  have hb : b ≠ a := by
    rintro rfl
    rw [h] at m
    exact n m
  rw [upd_ne hb]
  exact h
theorem Same.new {H : Hp} {p : Addr} {o : HO} (h : H p = none) : Same H (upd H p o) := fun a u e => by
  rw [upd_ne (ne_of_none e h)]
  exact e
theorem keep_t {K : Fg} {H H' : Hp} {a : Addr} {xs : List V} (e : Keep H H') (h : SqT K H a xs) : SqT K H' a xs := by
  rcases h with (h | ⟨o, h⟩) | h
  · exact .inl (.inl (e _ _ h (fun z => z)))
  · exact .inl (.inr ⟨o, e _ _ h (fun z => z)⟩)
  · exact .inr h
mutual
inductive Tp (K : Fg) (H : Hp) : V → Dt → Prop
  | non : Tp K H .non .non
  | bl (b : Bool) : Tp K H (.bl b) (.bl b)
  | int (i : Int) : Tp K H (.int i) (.int i)
  | str (x : Str) : Tp K H (.str x) (.str x)
  | adr (a : Addr) : Tp K H (.ref a) (.adr a)
  | tup {a : Addr} {xs : List V} {ds : List Dt} : SqT K H a xs → TpA K H xs ds → Tp K H (.ref a) (.tup ds)
inductive TpA (K : Fg) (H : Hp) : List V → List Dt → Prop
  | nil : TpA K H [] []
  | cons {v : V} {vs : List V} {d : Dt} {ds : List Dt} : Tp K H v d → TpA K H vs ds → TpA K H (v :: vs) (d :: ds)
end
mutual
theorem Tp.keep {K : Fg} {H H' : Hp} (e : Keep H H') : ∀ {v : V} {d : Dt}, Tp K H v d → Tp K H' v d
  | _, _, .non => .non
  | _, _, .bl b => .bl b
  | _, _, .int i => .int i
  | _, _, .str x => .str x
  | _, _, .adr a => .adr a
  | _, _, .tup h t => .tup (keep_t e h) (TpA.keep e t)
theorem TpA.keep {K : Fg} {H H' : Hp} (e : Keep H H') : ∀ {v : List V} {d : List Dt}, TpA K H v d → TpA K H' v d
  | _, _, .nil => .nil
  | _, _, .cons h t => .cons (Tp.keep e h) (TpA.keep e t)
end
theorem Tp.same {K : Fg} {H H' : Hp} (e : Same H H') {v : V} {d : Dt} (h : Tp K H v d) : Tp K H' v d := h.keep (.of e)
theorem TpA.same {K : Fg} {H H' : Hp} (e : Same H H') {v : List V} {d : List Dt} (h : TpA K H v d) : TpA K H' v d := h.keep (.of e)
section
variable {K : Fg} {H H' : Hp}
theorem TpA.length : ∀ {vs : List V} {ds : List Dt}, TpA K H vs ds → vs.length = ds.length
  | _, _, .nil => rfl
  | _, _, .cons _ t => congrArg (· + 1) (TpA.length t)
theorem TpA.get : ∀ {vs : List V} {ds : List Dt} {i : Nat} {d : Dt}, TpA K H vs ds → ds[i]? = some d → ∃ v, vs[i]? = some v ∧ Tp K H v d
  | _, _, _, _, .nil, e => by simp at e
  | _, _, 0, _, .cons r _, e => by simp at e; subst e; exact ⟨_, rfl, r⟩
  | _, _, i + 1, d, .cons _ t, e => by
    obtain ⟨u, h1, h2⟩ := TpA.get (i := i) (d := d) t (by simpa using e)
    exact ⟨u, by simpa using h1, h2⟩
theorem TpA.getV {vs : List V} {ds : List Dt} {i : Nat} {v : V} (h : TpA K H vs ds) (e : vs[i]? = some v) : ∃ d, ds[i]? = some d ∧ Tp K H v d := by
  have hi : i < ds.length := by
    rw [← h.length]
    exact (List.getElem?_eq_some_iff.mp e).1
  obtain ⟨u, h1, h2⟩ := h.get (List.getElem?_eq_getElem hi)
  rw [e] at h1
  cases h1
  exact ⟨_, List.getElem?_eq_getElem hi, h2⟩
theorem TpA.append : ∀ {vs ws : List V} {ds es : List Dt}, TpA K H vs ds → TpA K H ws es → TpA K H (vs ++ ws) (ds ++ es)
  | _, _, _, _, .nil, s => s
  | _, _, _, _, .cons r t, s => .cons r (TpA.append t s)
theorem TpA.set {v : V} {d : Dt} (r : Tp K H v d) : ∀ {vs : List V} {ds : List Dt} (i : Nat), TpA K H vs ds → TpA K H (vs.set i v) (ds.set i d)
  | _, _, _, .nil => .nil
  | _, _, 0, .cons _ t => .cons r t
  | _, _, i + 1, .cons q t => .cons q (TpA.set r i t)
theorem TpA.take : ∀ {vs : List V} {ds : List Dt} (n : Nat), TpA K H vs ds → TpA K H (vs.take n) (ds.take n)
  | _, _, 0, _ => .nil
  | _, _, _ + 1, .nil => .nil
  | _, _, n + 1, .cons r t => .cons r (TpA.take n t)
theorem TpA.drop : ∀ {vs : List V} {ds : List Dt} (n : Nat), TpA K H vs ds → TpA K H (vs.drop n) (ds.drop n)
  | _, _, 0, r => r
  | _, _, _ + 1, .nil => .nil
  | _, _, n + 1, .cons _ t => TpA.drop n t
theorem TpA.ints : ∀ {vs : List V} (ns : List Int), TpA K H vs (ns.map Dt.int) → vs = ns.map V.int
  | _, [], h => by cases h; rfl
  | _, n :: ns, h => by
    cases h with
    | cons r t =>
      cases r
      rw [TpA.ints ns t]
      rfl
theorem TpA.of_ints : ∀ (ns : List Int), TpA K H (ns.map V.int) (ns.map Dt.int)
  | [] => .nil
  | n :: ns => .cons (.int n) (TpA.of_ints ns)
theorem TpA.bls : ∀ {vs : List V} (ns : List Bool), TpA K H vs (ns.map Dt.bl) → vs = ns.map V.bl
  | _, [], h => by cases h; rfl
  | _, n :: ns, h => by
    cases h with
    | cons r t =>
      cases r
      rw [TpA.bls ns t]
      rfl
theorem TpA.strs : ∀ {vs : List V} (ns : List Str), TpA K H vs (ns.map Dt.str) → vs = ns.map V.str
  | _, [], h => by cases h; rfl
  | _, n :: ns, h => by
    cases h with
    | cons r t =>
      cases r
      rw [TpA.strs ns t]
      rfl
end
/-- own objects -/
inductive Ob where
  | lst (ds : List Dt)
  | ins (C dx : Addr) (fs : List (Str × Dt))
  | raw (o : HO)
inductive FsR (K : Fg) (H : Hp) : List (Str × V) → List (Str × Dt) → Prop
  | nil : FsR K H [] []
  | cons {f : Str} {v : V} {d : Dt} {gs : List (Str × V)} {fs : List (Str × Dt)} : Tp K H v d → FsR K H gs fs → FsR K H ((f, v) :: gs) ((f, d) :: fs)
theorem FsR.keep {K : Fg} {H H' : Hp} (e : Keep H H') : ∀ {gs : List (Str × V)} {fs : List (Str × Dt)}, FsR K H gs fs → FsR K H' gs fs
  | _, _, .nil => .nil
  | _, _, .cons r t => .cons (r.keep e) (FsR.keep e t)
theorem FsR.look {K : Fg} {H : Hp} {f : Str} : ∀ {gs : List (Str × V)} {fs : List (Str × Dt)} {d : Dt}, FsR K H gs fs → fs.lookup f = some d → ∃ v, gs.lookup f = some v ∧ Tp K H v d
  | _, _, _, .nil, e => by cases e
  | _, _, d, .cons (f := g) r t, e => by
    by_cases h : (f == g) = true
    · rw [List.lookup_cons, h] at e
      cases e
      exact ⟨_, by rw [List.lookup_cons, h], r⟩
    · have h' : (f == g) = false := by simpa using h
      rw [List.lookup_cons, h'] at e
      obtain ⟨v, h1, h2⟩ := FsR.look t e
      exact ⟨v, by rw [List.lookup_cons, h']; exact h1, h2⟩
theorem FsR.len {K : Fg} {H : Hp} : ∀ {gs : List (Str × V)} {fs : List (Str × Dt)}, FsR K H gs fs → gs.length = fs.length
  | _, _, .nil => rfl
  | _, _, .cons _ t => congrArg (· + 1) (FsR.len t)
theorem FsR.none {K : Fg} {H : Hp} {f : Str} : ∀ {gs : List (Str × V)} {fs : List (Str × Dt)}, FsR K H gs fs → fs.lookup f = none → gs.lookup f = none
  | _, _, .nil, _ => rfl
  | _, _, .cons (f := g) r t, e => by
    by_cases h : (f == g) = true
    · rw [List.lookup_cons, h] at e
      cases e
    · have h' : (f == g) = false := by simpa using h
      rw [List.lookup_cons, h'] at e
      rw [List.lookup_cons, h']
      exact FsR.none t e
/-- a field stored -/
def putD (f : Str) (d : Dt) : List (Str × Dt) → List (Str × Dt)
  | [] => [(f, d)]
  | (g, u) :: r => if g = f then (g, d) :: r else (g, u) :: putD f d r
def ObR (K : Fg) (H : Hp) (a : Addr) : Ob → Prop
  | .lst ds => ∃ vs, H a = some (.lst vs) ∧ TpA K H vs ds
  | .ins C dx fs => ∃ gs, H a = some (.ins C dx gs) ∧ FsR K H gs fs
  | .raw o => H a = some o ∧ Mut (some o)
theorem ObR.same {K : Fg} {H H' : Hp} (e : Same H H') {a : Addr} : ∀ {o : Ob}, ObR K H a o → ObR K H' a o
  | .lst _, ⟨vs, h, t⟩ => ⟨vs, e _ _ h, t.same e⟩
  | .ins _ _ _, ⟨gs, h, t⟩ => ⟨gs, e _ _ h, t.keep (.of e)⟩
  | .raw _, ⟨h, m⟩ => ⟨e _ _ h, m⟩
theorem ObR.some {K : Fg} {H : Hp} {a : Addr} : ∀ {o : Ob}, ObR K H a o → H a ≠ none
  | .lst _, ⟨_, h, _⟩ => by rw [h]; exact fun z => nomatch z
  | .ins _ _ _, ⟨_, h, _⟩ => by rw [h]; exact fun z => nomatch z
  | .raw _, ⟨h, _⟩ => by rw [h]; exact fun z => nomatch z
theorem ObR.mut {K : Fg} {H : Hp} {a : Addr} : ∀ {o : Ob}, ObR K H a o → Mut (H a)
  | .lst _, ⟨_, h, _⟩ => by rw [h]; trivial
  | .ins _ _ _, ⟨_, h, _⟩ => by rw [h]; trivial
  | .raw _, ⟨h, m⟩ => by rw [h]; exact m
theorem ObR.other {K : Fg} {H : Hp} {a b : Addr} {u : HO} (n : a ≠ b) (k : Keep H (upd H b u)) : ∀ {o : Ob}, ObR K H a o → ObR K (upd H b u) a o
  | .lst _, ⟨vs, h, t⟩ => ⟨vs, (upd_ne n).trans h, t.keep k⟩
  | .ins _ _ _, ⟨gs, h, t⟩ => ⟨gs, (upd_ne n).trans h, t.keep k⟩
  | .raw _, ⟨h, m⟩ => ⟨(upd_ne n).trans h, m⟩
abbrev Own := List (Addr × Ob)
abbrev Sl := List (Option Dt)
/-- what is known where one stands: B the ground (others' objects, never changed here), O own objects, L the slots -/
structure Sat (K : Fg) (B : Hp) (O : Own) (L : Sl) (σ : L2.St) (H : Hp) : Prop where
  ex : Same B H
  own : ∀ p ∈ O, B p.1 = none ∧ ObR K H p.1 p.2
  nd : (O.map Prod.fst).Nodup
  len : σ.length = L.length
  loc : ∀ (i : Nat) (d : Dt), L[i]? = some (some d) → ∃ v, σ[i]? = some (some v) ∧ Tp K H v d
section
variable {K : Fg} {B : Hp} {O : Own} {L : Sl} {σ : L2.St} {H H' : Hp}
theorem Sat.same (e : Same H H') (s : Sat K B O L σ H) : Sat K B O L σ H' :=
  ⟨s.ex.trans e, fun p hp => ⟨(s.own p hp).1, (s.own p hp).2.same e⟩, s.nd, s.len, fun i d h => let ⟨v, h1, h2⟩ := s.loc i d h; ⟨v, h1, h2.same e⟩⟩
theorem Sat.set {i : Nat} {v : V} {d : Dt} (s : Sat K B O L σ H) (h : Tp K H v d) : Sat K B O (L.set i (some d)) (σ.set i (some v)) H := by
  refine ⟨s.ex, s.own, s.nd, by simp [s.len], fun j e hj => ?_⟩
  by_cases hji : i = j
  · subst hji
    by_cases hl : i < L.length
    · rw [List.getElem?_set_self hl] at hj
      cases hj
      exact ⟨v, List.getElem?_set_self (by rw [s.len]; exact hl), h⟩
    · rw [List.getElem?_eq_none (by simpa using hl)] at hj
      cases hj
  · rw [List.getElem?_set_ne hji] at hj ⊢
    exact s.loc j e hj
/-- forgetting slots -/
theorem Sat.weak {L' : Sl} (s : Sat K B O L σ H) (hl : L'.length = L.length) (h : ∀ (i : Nat) (d : Dt), L'[i]? = some (some d) → L[i]? = some (some d)) : Sat K B O L' σ H :=
  ⟨s.ex, s.own, s.nd, s.len.trans hl.symm, fun i d e => s.loc i d (h i d e)⟩
theorem Sat.addOwn {p : Addr} {ob : Ob} (s : Sat K B O L σ H) (e : Same H H') (n : H p = none) (r : ObR K H' p ob) : Sat K B (O ++ [(p, ob)]) L σ H' := by
  have s' := s.same e
  refine ⟨s'.ex, fun q hq => ?_, ?_, s'.len, s'.loc⟩
  · rcases List.mem_append.mp hq with hq | hq
    · exact s'.own q hq
    · have : q = (p, ob) := by simpa using hq
      subst this
      refine ⟨?_, r⟩
      cases hb : B p with
      | none => rfl
      | some o =>
        have := s.ex _ _ hb
        rw [n] at this
        cases this
  · rw [List.map_append, List.nodup_append]
    refine ⟨s.nd, by simp, fun a ha b hb => ?_⟩
    have hb' : b = p := by simpa using hb
    subst hb'
    rintro rfl
    obtain ⟨q, hq, rfl⟩ := List.mem_map.mp ha
    exact (s.own q hq).2.some n
theorem Sat.at (s : Sat K B O L σ H) {j : Nat} {a : Addr} {ob : Ob} (h : O[j]? = some (a, ob)) : B a = none ∧ ObR K H a ob := s.own _ (List.mem_of_getElem? h)
theorem Sat.mut {j : Nat} {a : Addr} {ob ob' : Ob} {u : HO} (s : Sat K B O L σ H) (h : O[j]? = some (a, ob)) (m : Mut (H a)) (r : ObR K (upd H a u) a ob') : Sat K B (O.set j (a, ob')) L σ (upd H a u) := by
  have k : Keep H (upd H a u) := .mut m
  have hj : j < O.length := (List.getElem?_eq_some_iff.mp h).1
  have hj' : O[j] = (a, ob) := (List.getElem?_eq_some_iff.mp h).2
  have em : (O.set j (a, ob')).map Prod.fst = O.map Prod.fst := by
    rw [List.map_set]
    refine List.ext_getElem? fun i => ?_
    by_cases hi : j = i
    · subst hi
      rw [List.getElem?_set_self (by simpa using hj), List.getElem?_map, h]
      rfl
    · rw [List.getElem?_set_ne hi]
  refine ⟨fun b o e => ?_, fun q hq => ?_, ?_, s.len, fun i d e => let ⟨v, h1, h2⟩ := s.loc i d e; ⟨v, h1, h2.keep k⟩⟩
  · have hb : b ≠ a := by
      rintro rfl
      rw [(s.at h).1] at e
      cases e
    rw [upd_ne hb]
    exact s.ex _ _ e
  · obtain ⟨i, hi⟩ := List.mem_iff_getElem?.mp hq
    by_cases hij : j = i
    · subst hij
      rw [List.getElem?_set_self hj] at hi
      cases hi
      exact ⟨(s.at h).1, r⟩
    · rw [List.getElem?_set_ne hij] at hi
      have hq' := s.own q (List.mem_of_getElem? hi)
      refine ⟨hq'.1, hq'.2.other ?_ k⟩
      intro z
      have h1 : (O.map Prod.fst)[i]? = some q.1 := by rw [List.getElem?_map, hi]; rfl
      have h2 : (O.map Prod.fst)[j]? = some a := by rw [List.getElem?_map, h]; rfl
      rw [z] at h1
      obtain ⟨l1, e1⟩ := List.getElem?_eq_some_iff.mp h1
      obtain ⟨l2, e2⟩ := List.getElem?_eq_some_iff.mp h2
      exact hij ((List.getElem_inj s.nd).mp (e2.trans e1.symm))
  · rw [em]
    exact s.nd
end

/-! ### what an expression gives -/
inductive Rs where
  | dat (d : Dt)
  | new (ob : Ob)
def RsR (K : Fg) (H H2 : Hp) (v : V) : Rs → Prop
  | .dat d => Tp K H2 v d
  | .new ob => ∃ p, v = .ref p ∧ H p = none ∧ ObR K H2 p ob
theorem RsR.same {K : Fg} {H H2 H3 : Hp} {v : V} (e : Same H2 H3) : ∀ {r : Rs}, RsR K H H2 v r → RsR K H H3 v r
  | .dat _, h => Tp.same e h
  | .new _, ⟨p, h1, h2, h3⟩ => ⟨p, h1, h2, h3.same e⟩
theorem RsR.back {K : Fg} {H0 H H2 : Hp} {v : V} (e : Same H0 H) : ∀ {r : Rs}, RsR K H H2 v r → RsR K H0 H2 v r
  | .dat _, h => h
  | .new _, ⟨p, h1, h2, h3⟩ => ⟨p, h1, e.free h2, h3⟩
inductive RsA (K : Fg) (H H2 : Hp) : List V → List Rs → Prop
  | nil : RsA K H H2 [] []
  | cons {v : V} {vs : List V} {r : Rs} {rs : List Rs} : RsR K H H2 v r → RsA K H H2 vs rs → RsA K H H2 (v :: vs) (r :: rs)
theorem RsA.same {K : Fg} {H H2 H3 : Hp} (e : Same H2 H3) : ∀ {vs : List V} {rs : List Rs}, RsA K H H2 vs rs → RsA K H H3 vs rs
  | _, _, .nil => .nil
  | _, _, .cons r t => .cons (r.same e) (RsA.same e t)
theorem RsA.back {K : Fg} {H0 H H2 : Hp} (e : Same H0 H) : ∀ {vs : List V} {rs : List Rs}, RsA K H H2 vs rs → RsA K H0 H2 vs rs
  | _, _, .nil => .nil
  | _, _, .cons r t => .cons (r.back e) (RsA.back e t)
/-- all are data: the values of a display -/
theorem RsA.dats {K : Fg} {H H2 : Hp} : ∀ {vs : List V} (ds : List Dt), RsA K H H2 vs (ds.map .dat) → TpA K H2 vs ds
  | _, [], h => by cases h; exact .nil
  | _, d :: ds, h => by
    cases h with
    | cons r t => exact .cons r (RsA.dats ds t)
def Ev (K : Fg) (B : Hp) (O : Own) (L : Sl) (te : TE) (r : Rs) : Prop := ∀ σ H, Sat K B O L σ H → ∀ Q : VK, (∀ v H2, Same H H2 → RsR K H H2 v r → Q v H2) → te σ H Q
def EvT (K : Fg) (B : Hp) (O : Own) (L : Sl) (tt : TT) (b : Bool) : Prop := ∀ σ H, Sat K B O L σ H → ∀ Q : Bool → Hp → Prop, (∀ H2, Same H H2 → Q b H2) → tt σ H Q
def EvA (K : Fg) (B : Hp) (O : Own) (L : Sl) (ta : TA) (rs : List Rs) : Prop := ∀ σ H, Sat K B O L σ H → ∀ Q : List V → Hp → Prop, (∀ vs H2, Same H H2 → RsA K H H2 vs rs → Q vs H2) → ta σ H Q
/-- v is a list of ds, to be read -/
def LsR (K : Fg) (H : Hp) (v : V) (ds : List Dt) : Prop := ∃ a vs, v = .ref a ∧ SqL K H a vs ∧ TpA K H vs ds
theorem LsR.same {K : Fg} {H H' : Hp} {v : V} {ds : List Dt} (e : Same H H') : LsR K H v ds → LsR K H' v ds := fun ⟨a, vs, h1, h2, h3⟩ => ⟨a, vs, h1, e.seq h2, h3.same e⟩
/-- the result is a list of ds -/
def Ls (K : Fg) (B : Hp) (O : Own) (r : Rs) (ds : List Dt) : Prop := ∀ L σ H H2 v, Sat K B O L σ H → Same H H2 → RsR K H H2 v r → LsR K H2 v ds
section
variable {K : Fg} {B : Hp} {O : Own} {L : Sl} {ta tb te tx : TE} {t u : TT}
theorem Ls.new {ds : List Dt} : Ls K B O (.new (.lst ds)) ds := fun _ _ _ _ _ _ _ ⟨p, h1, _, vs, h3, h4⟩ => ⟨p, vs, h1, .of h3, h4⟩
theorem Ls.own {j : Nat} {a : Addr} {ds : List Dt} (h : O[j]? = some (a, .lst ds)) : Ls K B O (.dat (.adr a)) ds := fun _ _ _ _ _ s e r => by
  obtain ⟨vs, h1, h2⟩ := ((s.same e).at h).2
  cases r
  exact ⟨a, vs, rfl, .of h1, h2⟩
theorem Ls.base {a : Addr} {ds : List Dt} (h : LsR K B (.ref a) ds) : Ls K B O (.dat (.adr a)) ds := fun _ _ _ _ _ s e r => by
  cases r
  exact (h.same s.ex).same e
theorem Ev.is {r r' : Rs} (h : Ev K B O L te r) (e : r = r') : Ev K B O L te r' := e ▸ h
theorem Ev.isD {d d' : Dt} (h : Ev K B O L te (.dat d)) (e : d = d') : Ev K B O L te (.dat d') := e ▸ h
theorem EvT.is {b b' : Bool} (h : EvT K B O L t b) (e : b = b') : EvT K B O L t b' := e ▸ h
theorem ev_var {i : Nat} {d : Dt} (h : L[i]? = some (some d)) : Ev K B O L (tVar i) (.dat d) := fun σ H s Q q =>
  let ⟨v, h1, h2⟩ := s.loc i d h
  ⟨v, h1, q v H (.refl H) h2⟩
theorem ev_int {i : Int} : Ev K B O L (tC (.int i)) (.dat (.int i)) := fun σ H s Q q => q _ H (.refl H) (.int i)
theorem ev_bl {b : Bool} : Ev K B O L (tC (.bl b)) (.dat (.bl b)) := fun σ H s Q q => q _ H (.refl H) (.bl b)
theorem ev_str {x : Str} : Ev K B O L (tC (.str x)) (.dat (.str x)) := fun σ H s Q q => q _ H (.refl H) (.str x)
theorem ev_non : Ev K B O L (tC .non) (.dat .non) := fun σ H s Q q => q _ H (.refl H) .non
theorem ev_adr {a : Addr} : Ev K B O L (tC (.ref a)) (.dat (.adr a)) := fun σ H s Q q => q _ H (.refl H) (.adr a)
/-- a tuple that the top has written -/
theorem ev_globT {a : Addr} {ds : List Dt} (h : ∀ H, Tp K H (.ref a) (.tup ds)) : Ev K B O L (tC (.ref a)) (.dat (.tup ds)) := fun σ H s Q q => q _ H (.refl H) (h H)
/-- a two-place operation upon two data -/
theorem ev_op {r : R2} {d e : Dt} {z : Rs} (ha : Ev K B O L ta (.dat d)) (hb : Ev K B O L tb (.dat e))
    (hr : ∀ σ H, Sat K B O L σ H → ∀ x y, Tp K H x d → Tp K H y e → ∀ Q : VK, (∀ v H2, Same H H2 → RsR K H H2 v z → Q v H2) → r x y H Q) : Ev K B O L (tOp r ta tb) z := fun σ H s Q q =>
  ha σ H s _ fun x H1 e1 r1 => hb σ H1 (s.same e1) _ fun y H2 e2 r2 => hr σ H2 ((s.same e1).same e2) x y (Tp.same e2 r1) r2 Q fun v H3 e3 r3 => q v H3 ((e1.trans e2).trans e3) (r3.back (e1.trans e2))
theorem ev_rI {C : Int → Int → Prop} {g : Int → Int → V} {i j : Int} {d : Dt} (ha : Ev K B O L ta (.dat (.int i))) (hb : Ev K B O L tb (.dat (.int j))) (hc : C i j) (hg : ∀ H, Tp K H (g i j) d) : Ev K B O L (tOp (rI C g) ta tb) (.dat d) :=
  ev_op ha hb fun σ H s x y hx hy Q q => by
    cases hx
    cases hy
    exact ⟨i, j, rfl, rfl, hc, q _ H (.refl H) (hg H)⟩
theorem ev_rI0 {g : Int → Int → V} {i j : Int} {d : Dt} (ha : Ev K B O L ta (.dat (.int i))) (hb : Ev K B O L tb (.dat (.int j))) (hg : ∀ H, Tp K H (g i j) d) : Ev K B O L (tOp (rI0 g) ta tb) (.dat d) :=
  ev_op ha hb fun σ H s x y hx hy Q q => by
    cases hx
    cases hy
    exact ⟨i, j, rfl, rfl, q _ H (.refl H) (hg H)⟩
theorem ev_un {r : V → Hp → VK → Prop} {d : Dt} {z : Rs} (ha : Ev K B O L ta (.dat d))
    (hr : ∀ σ H, Sat K B O L σ H → ∀ x, Tp K H x d → ∀ Q : VK, (∀ v H2, Same H H2 → RsR K H H2 v z → Q v H2) → r x H Q) : Ev K B O L (tUn r ta) z := fun σ H s Q q =>
  ha σ H s _ fun x H1 e1 r1 => hr σ H1 (s.same e1) x r1 Q fun v H3 e3 r3 => q v H3 (e1.trans e3) (r3.back e1)
theorem ev_neg {i : Int} (ha : Ev K B O L ta (.dat (.int i))) : Ev K B O L (tUn (rU fun i => .int (-i)) ta) (.dat (.int (-i))) :=
  ev_un ha fun σ H s x hx Q q => by
    cases hx
    exact ⟨i, rfl, q _ H (.refl H) (.int _)⟩
/-! ### arguments, displays -/
theorem ea_nil : EvA K B O L tNil [] := fun σ H s Q q => q [] H (.refl H) .nil
theorem ea_cons {tr : TA} {r : Rs} {rs : List Rs} (h : Ev K B O L ta r) (hr : EvA K B O L tr rs) : EvA K B O L (tCons ta tr) (r :: rs) := fun σ H s Q q =>
  h σ H s _ fun v H1 e1 r1 => hr σ H1 (s.same e1) _ fun vs H2 e2 r2 => q _ H2 (e1.trans e2) (.cons (r1.same e2) (r2.back e1))
/-- data in a row -/
def EvD (K : Fg) (B : Hp) (O : Own) (L : Sl) (ta : TA) (ds : List Dt) : Prop := EvA K B O L ta (ds.map .dat)
theorem ed_nil : EvD K B O L tNil [] := ea_nil
theorem ed_cons {tr : TA} {d : Dt} {ds : List Dt} (h : Ev K B O L ta (.dat d)) (hr : EvD K B O L tr ds) : EvD K B O L (tCons ta tr) (d :: ds) := ea_cons h hr
theorem ev_tup {ta : TA} {ds : List Dt} (h : EvD K B O L ta ds) (hl : Nat.ble ds.length 100000 = true := by rfl) : Ev K B O L (tTup ta) (.dat (.tup ds)) := fun σ H s Q q =>
  h σ H s _ fun vs H1 e1 r1 => by
    have r2 := r1.dats
    refine ⟨by have := Nat.le_of_ble_eq_true hl; rw [r2.length, sizeLine_eq]; omega, fun p hp => q _ _ (e1.trans (Same.new hp)) (.tup (.of upd_same) (r2.same (Same.new hp)))⟩
theorem ev_lst {ta : TA} {ds : List Dt} (h : EvD K B O L ta ds) (hl : Nat.ble ds.length 100000 = true := by rfl) : Ev K B O L (tLst ta) (.new (.lst ds)) := fun σ H s Q q =>
  h σ H s _ fun vs H1 e1 r1 => by
    have r2 := r1.dats
    refine ⟨by have := Nat.le_of_ble_eq_true hl; rw [r2.length, sizeLine_eq]; omega, fun p hp => q _ _ (e1.trans (Same.new hp)) ⟨p, rfl, e1.free hp, vs, upd_same, r2.same (Same.new hp)⟩⟩
/-! ### tests -/
theorem et_test {b : Bool} (h : Ev K B O L te (.dat (.bl b))) : EvT K B O L (tTest te) b := fun σ H s Q q => h σ H s _ fun v H2 e r => by
  cases r
  exact ⟨b, rfl, q H2 e⟩
theorem et_B {b : Bool} (h : Ev K B O L te (.dat (.bl b))) : EvT K B O L (tB te) b := et_test h
theorem et_and {a b : Bool} (h1 : EvT K B O L t a) (h2 : a = true → EvT K B O L u b) : EvT K B O L (tAnd t u) (a && b) := fun σ H s Q q => h1 σ H s _ fun H2 e2 => by
  cases a with
  | true =>
    show u σ H2 Q
    exact h2 rfl σ H2 (s.same e2) Q fun H3 e3 => q H3 (e2.trans e3)
  | false =>
    show Q false H2
    exact q H2 e2
theorem et_or {a b : Bool} (h1 : EvT K B O L t a) (h2 : a = false → EvT K B O L u b) : EvT K B O L (tOr t u) (a || b) := fun σ H s Q q => h1 σ H s _ fun H2 e2 => by
  cases a with
  | true =>
    show Q true H2
    exact q H2 e2
  | false =>
    show u σ H2 Q
    exact h2 rfl σ H2 (s.same e2) Q fun H3 e3 => q H3 (e2.trans e3)
theorem et_not {a : Bool} (h1 : EvT K B O L t a) : EvT K B O L (tNot t) (!a) := fun σ H s Q q => h1 σ H s _ fun H2 e2 => q H2 e2
theorem ev_andV {a b : Bool} (h1 : Ev K B O L ta (.dat (.bl a))) (h2 : a = true → Ev K B O L tb (.dat (.bl b))) : Ev K B O L (tAndV ta tb) (.dat (.bl (a && b))) := fun σ H s Q q => h1 σ H s _ fun v H2 e2 r => by
  cases r
  refine ⟨a, rfl, ?_⟩
  cases a with
  | true =>
    show tb σ H2 Q
    exact h2 rfl σ H2 (s.same e2) Q fun v H3 e3 r3 => q v H3 (e2.trans e3) (r3.back e2)
  | false =>
    show Q (.bl false) H2
    exact q _ H2 e2 (.bl false)
theorem ev_orV {a b : Bool} (h1 : Ev K B O L ta (.dat (.bl a))) (h2 : a = false → Ev K B O L tb (.dat (.bl b))) : Ev K B O L (tOrV ta tb) (.dat (.bl (a || b))) := fun σ H s Q q => h1 σ H s _ fun v H2 e2 r => by
  cases r
  refine ⟨a, rfl, ?_⟩
  cases a with
  | true =>
    show Q (.bl true) H2
    exact q _ H2 e2 (.bl true)
  | false =>
    show tb σ H2 Q
    exact h2 rfl σ H2 (s.same e2) Q fun v H3 e3 r3 => q v H3 (e2.trans e3) (r3.back e2)
theorem ev_notV {a : Bool} (h1 : Ev K B O L ta (.dat (.bl a))) : Ev K B O L (tNotV ta) (.dat (.bl (!a))) := fun σ H s Q q => h1 σ H s _ fun v H2 e2 r => by
  cases r
  exact ⟨a, rfl, q _ H2 e2 (.bl _)⟩
/-! ### comparing scalars -/
theorem ev_eqI {i j : Int} (ha : Ev K B O L ta (.dat (.int i))) (hb : Ev K B O L tb (.dat (.int j))) : Ev K B O L (tOp rEq ta tb) (.dat (.bl (decide (i = j)))) :=
  ev_op ha hb fun σ H s x y hx hy Q q => by
    cases hx
    cases hy
    refine ⟨rfl, q _ H (.refl H) ?_⟩
    have e : decide (V.int i = V.int j) = decide (i = j) := by
      by_cases h : i = j
      · rw [decide_eq_true h, decide_eq_true (by rw [h])]
      · rw [decide_eq_false h, decide_eq_false (fun z => h (V.int.inj z))]
    rw [e]
    exact .bl _
theorem ev_neI {i j : Int} (ha : Ev K B O L ta (.dat (.int i))) (hb : Ev K B O L tb (.dat (.int j))) : Ev K B O L (tOp rNe ta tb) (.dat (.bl (!decide (i = j)))) :=
  ev_op ha hb fun σ H s x y hx hy Q q => by
    cases hx
    cases hy
    refine ⟨rfl, q _ H (.refl H) ?_⟩
    have e : decide (V.int i = V.int j) = decide (i = j) := by
      by_cases h : i = j
      · rw [decide_eq_true h, decide_eq_true (by rw [h])]
      · rw [decide_eq_false h, decide_eq_false (fun z => h (V.int.inj z))]
    rw [e]
    exact .bl _
theorem ev_eqS {i j : Str} (ha : Ev K B O L ta (.dat (.str i))) (hb : Ev K B O L tb (.dat (.str j))) : Ev K B O L (tOp rEq ta tb) (.dat (.bl (decide (i = j)))) :=
  ev_op ha hb fun σ H s x y hx hy Q q => by
    cases hx
    cases hy
    refine ⟨rfl, q _ H (.refl H) ?_⟩
    have e : decide (V.str i = V.str j) = decide (i = j) := by
      by_cases h : i = j
      · rw [decide_eq_true h, decide_eq_true (by rw [h])]
      · rw [decide_eq_false h, decide_eq_false (fun z => h (V.str.inj z))]
    rw [e]
    exact .bl _
theorem ev_neS {i j : Str} (ha : Ev K B O L ta (.dat (.str i))) (hb : Ev K B O L tb (.dat (.str j))) : Ev K B O L (tOp rNe ta tb) (.dat (.bl (!decide (i = j)))) :=
  ev_op ha hb fun σ H s x y hx hy Q q => by
    cases hx
    cases hy
    refine ⟨rfl, q _ H (.refl H) ?_⟩
    have e : decide (V.str i = V.str j) = decide (i = j) := by
      by_cases h : i = j
      · rw [decide_eq_true h, decide_eq_true (by rw [h])]
      · rw [decide_eq_false h, decide_eq_false (fun z => h (V.str.inj z))]
    rw [e]
    exact .bl _
theorem ev_eqB {i j : Bool} (ha : Ev K B O L ta (.dat (.bl i))) (hb : Ev K B O L tb (.dat (.bl j))) : Ev K B O L (tOp rEq ta tb) (.dat (.bl (i == j))) :=
  ev_op ha hb fun σ H s x y hx hy Q q => by
    cases hx
    cases hy
    refine ⟨rfl, q _ H (.refl H) ?_⟩
    have e : decide (V.bl i = V.bl j) = (i == j) := by
      cases i <;> cases j <;> rfl
    rw [e]
    exact .bl _
theorem ev_neB {i j : Bool} (ha : Ev K B O L ta (.dat (.bl i))) (hb : Ev K B O L tb (.dat (.bl j))) : Ev K B O L (tOp rNe ta tb) (.dat (.bl (!(i == j)))) :=
  ev_op ha hb fun σ H s x y hx hy Q q => by
    cases hx
    cases hy
    refine ⟨rfl, q _ H (.refl H) ?_⟩
    have e : decide (V.bl i = V.bl j) = (i == j) := by
      cases i <;> cases j <;> rfl
    rw [e]
    exact .bl _
/-! ### subscripts, len -/
theorem ev_ixT {ds : List Dt} {i : Int} {d : Dt} (ha : Ev K B O L ta (.dat (.tup ds))) (hb : Ev K B O L tb (.dat (.int i))) (h : atI ds i = some d) : Ev K B O L (tOp (rIxT K) ta tb) (.dat d) :=
  ev_op ha hb fun σ H s x y hx hy Q q => by
    cases hy
    cases hx with
    | tup ht hd =>
      rename_i a xs
      have h2 : ∃ v, atI xs i = some v ∧ Tp K H v d := by
        unfold atI at h ⊢
        rw [hd.length]
        cases e : ixN ds.length i with
        | none => rw [e] at h; cases h
        | some j =>
          rw [e] at h
          exact hd.get h
      obtain ⟨v, h3, h4⟩ := h2
      exact ⟨a, xs, i, v, rfl, rfl, ht, h3, q _ H (.refl H) h4⟩
theorem ev_ixL {ds : List Dt} {i : Int} {d : Dt} {r : Rs} (ha : Ev K B O L ta r) (hl : Ls K B O r ds) (hb : Ev K B O L tb (.dat (.int i))) (h : atI ds i = some d) : Ev K B O L (tOp (rIxL K) ta tb) (.dat d) := fun σ H s Q q =>
  ha σ H s _ fun x H1 e1 r1 => hb σ H1 (s.same e1) _ fun y H2 e2 r2 => by
    cases r2
    obtain ⟨a, vs, rfl, h2, h3⟩ := (hl L σ H H1 x s e1 r1).same e2
    have h4 : ∃ v, atI vs i = some v ∧ Tp K H2 v d := by
      unfold atI at h ⊢
      rw [h3.length]
      cases e : ixN ds.length i with
      | none => rw [e] at h; cases h
      | some j =>
        rw [e] at h
        exact h3.get h
    obtain ⟨v, h5, h6⟩ := h4
    exact ⟨a, vs, i, v, rfl, rfl, h2, h5, q _ H2 (e1.trans e2) h6⟩
end
end GT
namespace GT
open PySem L2
/-! ### statements -/
/-- P holds wherever what is known holds -/
def Nx (K : Fg) (B : Hp) (O : Own) (L : Sl) (P : L2.St → Hp → Prop) : Prop := ∀ σ H, Sat K B O L σ H → P σ H
/-- what is handed back is taken -/
def Rt (K : Fg) (B : Hp) (R : VK) (r : Rs) : Prop := ∀ v H2, Same B H2 → RsR K B H2 v r → R v H2
section
variable {K : Fg} {B : Hp} {O : Own} {L : Sl} {te ta tb tx : TE} {t : TT} {D : Ends} {tu tw : TS} {g : TG}
theorem s_seq (h : Nx K B O L (tu { D with nx := tw D })) : Nx K B O L (tSeq tu tw D) := h
theorem s_end (h : Nx K B O L D.nx) : Nx K B O L (tNext D) := h
theorem s_brk (h : Nx K B O L D.bk) : Nx K B O L (tBreak D) := h
theorem s_cont (h : Nx K B O L D.ct) : Nx K B O L (tCont D) := h
theorem s_asg {i : Nat} {d : Dt} (h : Ev K B O L te (.dat d)) (k : Nx K B O (L.set i (some d)) D.nx) : Nx K B O L (tAsg te (gName i) D) := fun σ H s =>
  h σ H s _ fun v H1 e1 r1 => k _ H1 ((s.same e1).set r1)
theorem s_asgN {i : Nat} {ob : Ob} (h : Ev K B O L te (.new ob)) (k : ∀ p, Nx K B (O ++ [(p, ob)]) (L.set i (some (.adr p))) D.nx) : Nx K B O L (tAsg te (gName i) D) := fun σ H s =>
  h σ H s _ fun v H1 e1 ⟨p, hv, hn, r1⟩ => by
    subst hv
    exact k p _ H1 ((s.addOwn e1 hn r1).set (.adr p))
theorem s_if {b : Bool} (h : EvT K B O L t b) (h1 : b = true → Nx K B O L (tu D)) (h2 : b = false → Nx K B O L (tw D)) : Nx K B O L (tIfS t tu tw D) := fun σ H s =>
  h σ H s _ fun H1 e1 => by
    cases b with
    | true =>
      show tu D σ H1
      exact h1 rfl σ H1 (s.same e1)
    | false =>
      show tw D σ H1
      exact h2 rfl σ H1 (s.same e1)
theorem s_drop {r : Rs} (h : Ev K B O L te r) (k : Nx K B O L D.nx) : Nx K B O L (tDrop te D) := fun σ H s =>
  h σ H s _ fun v H1 e1 _ => k σ H1 (s.same e1)
theorem s_ret {r : Rs} (h : Ev K B O L te r) (k : Rt K B D.rt r) : Nx K B O L (tRet te D) := fun σ H s =>
  h σ H s _ fun v H1 e1 r1 => k v H1 (s.ex.trans e1) (r1.back s.ex)
/-- an own object is handed back -/
theorem s_retO {j : Nat} {a : Addr} {ob : Ob} (h : Ev K B O L te (.dat (.adr a))) (hj : O[j]? = some (a, ob)) (k : Rt K B D.rt (.new ob)) : Nx K B O L (tRet te D) := fun σ H s =>
  h σ H s _ fun v H1 e1 r1 => by
    cases r1
    obtain ⟨h1, h2⟩ := (s.same e1).at hj
    exact k _ H1 (s.ex.trans e1) ⟨a, rfl, h1, h2⟩
theorem s_retN (k : Rt K B D.rt (.dat .non)) : Nx K B O L (tRetN D) := fun σ H s => k _ H s.ex .non
/-- xs.append(e) -/
theorem s_app {j : Nat} {a : Addr} {ds : List Dt} {d : Dt} (ho : Ev K B O L ta (.dat (.adr a))) (hj : O[j]? = some (a, .lst ds)) (h : Ev K B O L te (.dat d)) (hz : ds.length < 100000)
    (k : Nx K B (O.set j (a, .lst (ds ++ [d]))) L D.nx) : Nx K B O L (tDrop (tBM K "list" rAppend ta (tCons te tNil)) D) := fun σ H s =>
  ho σ H s _ fun v H1 e1 r1 => by
    cases r1
    obtain ⟨vs0, h1, _⟩ := ((s.same e1).at hj).2
    refine ⟨Or.inl ⟨rfl, vs0, .of h1⟩, h σ H1 (s.same e1) _ fun w H2 e2 r2 => ?_⟩
    have s2 := (s.same e1).same e2
    obtain ⟨vs, h3, h4⟩ := (s2.at hj).2
    refine ⟨a, vs, w, rfl, rfl, h3, by rw [h4.length, sizeLine_eq]; omega, ?_⟩
    have m : Mut (H2 a) := by rw [h3]; trivial
    exact k σ _ (s2.mut hj m ⟨vs ++ [w], upd_same, (h4.append (.cons r2 .nil)).keep (.mut m)⟩)
/-- xs.append(e), e an own new object -/
theorem s_appN {j : Nat} {a : Addr} {ds : List Dt} {ob : Ob} (ho : Ev K B O L ta (.dat (.adr a))) (hj : O[j]? = some (a, .lst ds)) (h : Ev K B O L te (.new ob)) (hz : ds.length < 100000)
    (k : ∀ p, Nx K B ((O ++ [(p, ob)]).set j (a, .lst (ds ++ [Dt.adr p]))) L D.nx) : Nx K B O L (tDrop (tBM K "list" rAppend ta (tCons te tNil)) D) := fun σ H s =>
  ho σ H s _ fun v H1 e1 r1 => by
    cases r1
    obtain ⟨vs0, h1, _⟩ := ((s.same e1).at hj).2
    refine ⟨Or.inl ⟨rfl, vs0, .of h1⟩, h σ H1 (s.same e1) _ fun w H2 e2 ⟨p, hw, hn, r2⟩ => ?_⟩
    subst hw
    have s2 := (s.same e1).addOwn e2 hn r2
    have hj2 : (O ++ [(p, ob)])[j]? = some (a, .lst ds) := by
      rw [List.getElem?_append_left (List.getElem?_eq_some_iff.mp hj).1]
      exact hj
    obtain ⟨vs, h3, h4⟩ := (s2.at hj2).2
    refine ⟨a, vs, .ref p, rfl, rfl, h3, by rw [h4.length, sizeLine_eq]; omega, ?_⟩
    have m : Mut (H2 a) := by rw [h3]; trivial
    exact k p σ _ (s2.mut hj2 m ⟨vs ++ [.ref p], upd_same, (h4.append (.cons (Tp.adr p) .nil)).keep (.mut m)⟩)
/-- xs.extend(ys), ys new -/
theorem s_ext {j : Nat} {a : Addr} {ds es : List Dt} (ho : Ev K B O L ta (.dat (.adr a))) (hj : O[j]? = some (a, .lst ds)) (h : Ev K B O L te (.new (.lst es))) (hz : ds.length + es.length ≤ 100000)
    (k : Nx K B (O.set j (a, .lst (ds ++ es))) L D.nx) : Nx K B O L (tDrop (tBM K "list" rExtend ta (tCons te tNil)) D) := fun σ H s =>
  ho σ H s _ fun v H1 e1 r1 => by
    cases r1
    obtain ⟨vs0, h1, _⟩ := ((s.same e1).at hj).2
    refine ⟨Or.inl ⟨rfl, vs0, .of h1⟩, h σ H1 (s.same e1) _ fun w H2 e2 ⟨p, hw, hn, ws, hp, r2⟩ => ?_⟩
    subst hw
    have s2 := (s.same e1).same e2
    obtain ⟨vs, h3, h4⟩ := (s2.at hj).2
    refine ⟨a, p, vs, ws, rfl, rfl, h3, hp, by rw [h4.length, r2.length, sizeLine_eq]; omega, ?_⟩
    have m : Mut (H2 a) := by rw [h3]; trivial
    exact k σ _ (s2.mut hj m ⟨vs ++ ws, upd_same, (h4.append r2).keep (.mut m)⟩)
/-- xs.clear() -/
theorem s_clear {j : Nat} {a : Addr} {ds : List Dt} (ho : Ev K B O L ta (.dat (.adr a))) (hj : O[j]? = some (a, .lst ds))
    (k : Nx K B (O.set j (a, .lst [])) L D.nx) : Nx K B O L (tDrop (tBM0 K "list" rClear ta) D) := fun σ H s =>
  ho σ H s _ fun v H1 e1 r1 => by
    cases r1
    have s2 := s.same e1
    obtain ⟨vs, h3, h4⟩ := (s2.at hj).2
    have m : Mut (H1 a) := by rw [h3]; trivial
    exact ⟨Or.inl ⟨rfl, vs, .of h3⟩, a, vs, rfl, rfl, h3, k σ _ (s2.mut hj m ⟨[], upd_same, .nil⟩)⟩
theorem ixN_nat {n j : Nat} (hj : j < n) : ixN n (j : Int) = some j := by
  unfold ixN
  rw [if_pos (by omega), if_pos (by omega)]
  simp
/-- xs[i] = e -/
theorem s_setL {j i : Nat} {k : Int} {a : Addr} {ds : List Dt} {d : Dt} (h : Ev K B O L te (.dat d)) (ho : Ev K B O L ta (.dat (.adr a))) (hj : O[j]? = some (a, .lst ds)) (hi : Ev K B O L tb (.dat (.int k))) (hk : ixN ds.length k = some i)
    (hn : Nx K B (O.set j (a, .lst (ds.set i d))) L D.nx) : Nx K B O L (tAsg te (gSub ta tb rSetL) D) := fun σ H s =>
  h σ H s _ fun v H1 e1 r1 => ho σ H1 (s.same e1) _ fun u H2 e2 r2 => hi σ H2 ((s.same e1).same e2) _ fun w H3 e3 r3 => by
    cases r2
    cases r3
    have s3 := ((s.same e1).same e2).same e3
    obtain ⟨vs, h3, h4⟩ := (s3.at hj).2
    have m : Mut (H3 a) := by rw [h3]; trivial
    exact ⟨a, vs, k, i, rfl, rfl, h3, by rw [h4.length]; exact hk, hn σ _ (s3.mut hj m ⟨vs.set i v, upd_same, (h4.set (Tp.same (e2.trans e3) r1) i).keep (.mut m)⟩)⟩
/-- forgetting slots, at a join -/
theorem nx_weak {L' : Sl} {P : L2.St → Hp → Prop} (h : Nx K B O L' P) (hl : L'.length = L.length) (hw : ∀ (i : Nat) (d : Dt), L'[i]? = some (some d) → L[i]? = some (some d)) : Nx K B O L P := fun σ H s => h σ H (s.weak hl hw)
/-! ### targets -/
def Tg (K : Fg) (B : Hp) (O : Own) (L : Sl) (g : TG) (d : Dt) (L' : Sl) : Prop := ∀ σ H v, Sat K B O L σ H → Tp K H v d → ∀ Q : L2.St → Hp → Prop, (∀ σ', Sat K B O L' σ' H → Q σ' H) → g v σ H Q
theorem tg_name {i : Nat} {d : Dt} : Tg K B O L (gName i) d (L.set i (some d)) := fun σ H v s r Q q => q _ (s.set r)
theorem tg_tup2 {i j : Nat} {d e : Dt} : Tg K B O L (gTup K 2 (gCons (gName i) (gCons (gName j) gNil))) (.tup [d, e]) ((L.set i (some d)).set j (some e)) := fun σ H v s r Q q => by
  cases r with
  | tup ht ha =>
    cases ha with
    | cons r1 t =>
      cases t with
      | cons r2 t2 =>
        cases t2
        exact ⟨_, _, rfl, ht, rfl, _, _, rfl, _, _, rfl, rfl, q _ ((s.set r1).set r2)⟩
/-! ### loops -/
/-- over a list at a, by a word of what has been taken -/
theorem s_forW {α : Type} {enc : α → Dt} {ys : List α} {a : Addr} {tl : TE} (h : Ev K B O L tl (.dat (.adr a))) (W : List α → L2.St → Hp → Prop) (hl : ∀ pre σ H, W pre σ H → LsR K H (.ref a) (ys.map enc))
    (h0 : Nx K B O L (W [])) (hs : ∀ pre y post, ys = pre ++ y :: post → ∀ σ H v, W pre σ H → Tp K H v (enc y) → g v σ H fun σ2 H2 => tu { D with nx := W (pre ++ [y]), ct := W (pre ++ [y]), bk := D.nx } σ2 H2)
    (hd : ∀ σ H, W ys σ H → D.nx σ H) : Nx K B O L (tFor (iList K tl) g tu D) := fun σ H s =>
  h σ H s _ fun v H1 e1 r1 => by
    cases r1
    have w0 := h0 σ H1 (s.same e1)
    refine ⟨a, rfl, ?_, fun i m σ H => m = ys.length - i ∧ i ≤ ys.length ∧ W (ys.take i) σ H, ⟨ys.length, by simp, Nat.zero_le _, w0⟩, ?_⟩
    · obtain ⟨b, vs, hb, h2, _⟩ := hl _ _ _ w0
      cases hb
      exact ⟨vs, h2⟩
    · rintro i m σ H ⟨rfl, hi, w⟩
      obtain ⟨b, vs, hb, h2, h3⟩ := hl _ _ _ w
      cases hb
      by_cases hlt : i < ys.length
      · have hd : (ys.map enc)[i]? = some (enc ys[i]) := by rw [List.getElem?_map, List.getElem?_eq_getElem hlt]; rfl
        obtain ⟨x, hx, rx⟩ := h3.get hd
        have et : ys.take (i + 1) = ys.take i ++ [ys[i]] := by rw [List.take_add_one, List.getElem?_eq_getElem hlt]; rfl
        refine .inr ⟨⟨vs, x, h2, hx⟩, W (ys.take (i + 1)), fun σ' H' p' => ⟨ys.length - (i + 1), by omega, rfl, hlt, p'⟩, fun x' H' y => ?_⟩
        obtain ⟨e, y⟩ := y
        subst e
        have ex : x' = x := Option.some.inj ((y vs h2).symm.trans hx)
        subst ex
        rw [et]
        exact hs (ys.take i) ys[i] (ys.drop (i + 1)) (by rw [← List.drop_eq_getElem_cons hlt, List.take_append_drop]) σ _ x' w rx
      · have e : i = ys.length := by omega
        subst e
        refine .inl ⟨⟨vs, h2, by rw [h3.length]; simp⟩, ?_⟩
        rw [List.take_length] at w
        exact hd σ H w
/-- .. the frame a function of what has been taken -/
theorem s_for {α : Type} {enc : α → Dt} {ys : List α} {a : Addr} {tl : TE} (h : Ev K B O L tl (.dat (.adr a))) (O' : List α → Own) (L1 : List α → α → Sl) (L0 : List α → Sl) (hl : ∀ pre, Ls K B (O' pre) (.dat (.adr a)) (ys.map enc))
    (h0 : Nx K B O L fun σ H => Sat K B (O' []) (L0 []) σ H) (hg : ∀ pre y, Tg K B (O' pre) (L0 pre) g (enc y) (L1 pre y))
    (hs : ∀ pre y post, ys = pre ++ y :: post → Nx K B (O' pre) (L1 pre y) (tu { D with nx := fun σ H => Sat K B (O' (pre ++ [y])) (L0 (pre ++ [y])) σ H, ct := fun σ H => Sat K B (O' (pre ++ [y])) (L0 (pre ++ [y])) σ H, bk := D.nx }))
    (hd : Nx K B (O' ys) (L0 ys) D.nx) : Nx K B O L (tFor (iList K tl) g tu D) :=
  s_forW (enc := enc) h (fun pre σ H => Sat K B (O' pre) (L0 pre) σ H) (fun pre σ H s => hl pre (L0 pre) σ H H _ s (.refl H) (.adr a)) h0
    (fun pre y post e σ H v s r => hg pre y σ H v s r _ fun σ' s' => hs pre y post e σ' H s') hd
/-- over a new list: it is an own object from now on -/
theorem s_forN {ob : Ob} {tl : TE} (h : Ev K B O L tl (.new ob)) (k : ∀ p, Nx K B (O ++ [(p, ob)]) L (tFor (iList K (tC (.ref p))) g tu D)) : Nx K B O L (tFor (iList K tl) g tu D) := fun σ H s =>
  h σ H s _ fun v H1 e1 ⟨p, hv, hn, r1⟩ => by
    subst hv
    exact k p σ H1 (s.addOwn e1 hn r1)
/-- over range(n) -/
theorem s_forR {n : Nat} {ta : TA} {j : Nat} (h : EvD K B O L ta [.int n]) (hn : n ≤ 100000) (W : Nat → L2.St → Hp → Prop) (h0 : Nx K B O L (W 0))
    (hs : ∀ i, i < n → ∀ σ H, W i σ H → tu { D with nx := W (i + 1), ct := W (i + 1), bk := D.nx } (σ.set j (some (.int i))) H)
    (hd : ∀ σ H, W n σ H → D.nx σ H) : Nx K B O L (tFor (iRng1 ta) (gName j) tu D) := fun σ H s =>
  h σ H s _ fun vs H1 e1 r1 => by
    have r2 := r1.dats
    cases r2 with
    | cons r t =>
      cases t
      cases r
      refine ⟨(n : Int), rfl, by omega, by omega, for_range (lo := 0) (n := (n : Int).toNat) W (h0 σ H1 (s.same e1)) (fun i σ' H' hi p => ?_) (by simpa using hd)⟩
      have e0 : (0 : Int) + (i : Int) = (i : Int) := Int.zero_add _
      show tu _ (σ'.set j (some (.int ((0 : Int) + (i : Int))))) H'
      rw [e0]
      exact hs i (by simpa using hi) σ' H' p
/-- .. the frame a function of the turn -/
theorem s_forRA {n : Nat} {ta : TA} {j : Nat} (h : EvD K B O L ta [.int n]) (hn : n ≤ 100000) (O' : Nat → Own) (L0 : Nat → Sl) (h0 : Nx K B O L fun σ H => Sat K B (O' 0) (L0 0) σ H)
    (hs : ∀ i, i < n → Nx K B (O' i) ((L0 i).set j (some (.int i))) (tu { D with nx := fun σ H => Sat K B (O' (i + 1)) (L0 (i + 1)) σ H, ct := fun σ H => Sat K B (O' (i + 1)) (L0 (i + 1)) σ H, bk := D.nx }))
    (hd : Nx K B (O' n) (L0 n) D.nx) : Nx K B O L (tFor (iRng1 ta) (gName j) tu D) :=
  s_forR h hn (fun i σ H => Sat K B (O' i) (L0 i) σ H) h0 (fun i hi σ H s => hs i hi _ H (s.set (.int _))) hd
/-- over range(lo, hi) -/
theorem s_forR2 {lo n : Nat} {hi : Int} {ta : TA} {j : Nat} (h : EvD K B O L ta [.int lo, .int hi]) (hlo : lo ≤ 100000) (hhi : -100000 ≤ hi ∧ hi ≤ 100000) (hn : (hi - lo).toNat = n) (O' : Nat → Own) (L0 : Nat → Sl) (h0 : Nx K B O L fun σ H => Sat K B (O' 0) (L0 0) σ H)
    (hs : ∀ i, i < n → Nx K B (O' i) ((L0 i).set j (some (.int (lo + i : Nat)))) (tu { D with nx := fun σ H => Sat K B (O' (i + 1)) (L0 (i + 1)) σ H, ct := fun σ H => Sat K B (O' (i + 1)) (L0 (i + 1)) σ H, bk := D.nx }))
    (hd : Nx K B (O' n) (L0 n) D.nx) : Nx K B O L (tFor (iRng2 ta) (gName j) tu D) := fun σ H s =>
  h σ H s _ fun vs H1 e1 r1 => by
    have r2 := r1.dats
    cases r2 with
    | cons r t =>
      cases t with
      | cons r' t' =>
        cases t'
        cases r
        cases r'
        subst hn
        refine ⟨(lo : Int), hi, rfl, ⟨by omega, by omega, by omega, by omega⟩, for_range (lo := lo) (n := (hi - lo).toNat) (fun i σ H => Sat K B (O' i) (L0 i) σ H) (h0 σ H1 (s.same e1)) (fun i σ' H' hi p => ?_) hd⟩
        have e0 : (lo : Int) + (i : Int) = ((lo + i : Nat) : Int) := by omega
        show tu _ (σ'.set j (some (.int ((lo : Int) + (i : Int))))) H'
        rw [e0]
        exact hs i hi _ H' (p.set (.int _))
/-- a tuple in the ground -/
def TupAt (K : Fg) (B : Hp) (a : Addr) (ds : List Dt) : Prop := ∃ xs, SqT K B a xs ∧ TpA K B xs ds
theorem TupAt.same {B B' : Hp} {a : Addr} {ds : List Dt} (e : Same B B') : TupAt K B a ds → TupAt K B' a ds := fun ⟨xs, h1, h2⟩ => ⟨xs, keep_t (.of e) h1, h2.same e⟩
/-- the ground may be what stands but the own objects -/
theorem Sat.ground {σ : L2.St} {H : Hp} (s : Sat K B O L σ H) : ∃ B' : Hp, Same B B' ∧ Sat K B' O L σ H ∧ Keep H B' := by
  let B' : Hp := fun b => if b ∈ O.map Prod.fst then none else H b
  have nin : ∀ b o, B b = some o → b ∉ O.map Prod.fst := fun b o e hm => by
    obtain ⟨q, hq, rfl⟩ := List.mem_map.mp hm
    rw [(s.own q hq).1] at e
    cases e
  refine ⟨B', fun b o e => ?_, ⟨fun b o e => ?_, fun p hp => ⟨?_, (s.own p hp).2⟩, s.nd, s.len, s.loc⟩, fun b o e n => ?_⟩
  · show (if b ∈ O.map Prod.fst then none else H b) = some o
    rw [if_neg (nin b o e)]
    exact s.ex b o e
  · have e' : (if b ∈ O.map Prod.fst then none else H b) = some o := e
    by_cases hb : b ∈ O.map Prod.fst
    · rw [if_pos hb] at e'
      cases e'
    · rw [if_neg hb] at e'
      exact e'
  · show (if p.1 ∈ O.map Prod.fst then none else H p.1) = none
    rw [if_pos (List.mem_map.mpr ⟨p, hp, rfl⟩)]
  · show (if b ∈ O.map Prod.fst then none else H b) = some o
    by_cases hb : b ∈ O.map Prod.fst
    · obtain ⟨q, hq, rfl⟩ := List.mem_map.mp hb
      have m := (s.own q hq).2.mut
      rw [e] at m
      exact absurd m n
    · rw [if_neg hb]
      exact e
theorem Rt.ground {B B' : Hp} {R : VK} {r : Rs} (e : Same B B') (h : Rt K B R r) : Rt K B' R r := fun v H2 e2 r2 => h v H2 (e.trans e2) (r2.back e)
/-- over a tuple: it stands in the ground from now on -/
theorem s_forT {ds : List Dt} {tl : TE} (h : Ev K B O L tl (.dat (.tup ds))) (k : ∀ B' a, Same B B' → TupAt K B' a ds → Nx K B' O L (tFor (iTup K (tC (.ref a))) g tu D)) : Nx K B O L (tFor (iTup K tl) g tu D) := fun σ H s =>
  h σ H s _ fun v H1 e1 r1 => by
    cases r1 with
    | tup ht ha =>
      rename_i a xs
      obtain ⟨B', e', s', kp⟩ := (s.same e1).ground
      exact k B' a e' ⟨xs, keep_t kp ht, ha.keep kp⟩ σ H1 s'
theorem s_forTW {α : Type} {enc : α → Dt} {ys : List α} {a : Addr} (h : TupAt K B a (ys.map enc)) (W : List α → L2.St → Hp → Prop) (hb : ∀ pre σ H, W pre σ H → Same B H)
    (h0 : Nx K B O L (W [])) (hs : ∀ pre y post, ys = pre ++ y :: post → ∀ σ H v, W pre σ H → Tp K H v (enc y) → g v σ H fun σ2 H2 => tu { D with nx := W (pre ++ [y]), ct := W (pre ++ [y]), bk := D.nx } σ2 H2)
    (hd : ∀ σ H, W ys σ H → D.nx σ H) : Nx K B O L (tFor (iTup K (tC (.ref a))) g tu D) := fun σ H s => by
  obtain ⟨xs, h2, h3⟩ := h
  have w0 := h0 σ H s
  refine ⟨a, rfl, ⟨xs, keep_t (.of s.ex) h2⟩, fun i m σ H => m = ys.length - i ∧ i ≤ ys.length ∧ W (ys.take i) σ H, ⟨ys.length, by simp, Nat.zero_le _, w0⟩, ?_⟩
  rintro i m σ H ⟨rfl, hi, w⟩
  have e0 := hb _ _ _ w
  have h2' := keep_t (.of e0) h2
  by_cases hlt : i < ys.length
  · have hd : (ys.map enc)[i]? = some (enc ys[i]) := by rw [List.getElem?_map, List.getElem?_eq_getElem hlt]; rfl
    obtain ⟨x, hx, rx⟩ := h3.get hd
    have et : ys.take (i + 1) = ys.take i ++ [ys[i]] := by rw [List.take_add_one, List.getElem?_eq_getElem hlt]; rfl
    refine .inr ⟨⟨xs, x, h2', hx⟩, W (ys.take (i + 1)), fun σ' H' p' => ⟨ys.length - (i + 1), by omega, rfl, hlt, p'⟩, fun x' H' y => ?_⟩
    obtain ⟨e, y⟩ := y
    subst e
    have ex : x' = x := Option.some.inj ((y xs h2').symm.trans hx)
    subst ex
    rw [et]
    exact hs (ys.take i) ys[i] (ys.drop (i + 1)) (by rw [← List.drop_eq_getElem_cons hlt, List.take_append_drop]) σ _ x' w (rx.same e0)
  · have e : i = ys.length := by omega
    subst e
    refine .inl ⟨⟨xs, h2', by rw [h3.length]; simp⟩, ?_⟩
    rw [List.take_length] at w
    exact hd σ H w
theorem s_forTA {α : Type} {enc : α → Dt} {ys : List α} {a : Addr} (h : TupAt K B a (ys.map enc)) (O' : List α → Own) (L1 : List α → α → Sl) (L0 : List α → Sl)
    (h0 : Nx K B O L fun σ H => Sat K B (O' []) (L0 []) σ H) (hg : ∀ pre y, Tg K B (O' pre) (L0 pre) g (enc y) (L1 pre y))
    (hs : ∀ pre y post, ys = pre ++ y :: post → Nx K B (O' pre) (L1 pre y) (tu { D with nx := fun σ H => Sat K B (O' (pre ++ [y])) (L0 (pre ++ [y])) σ H, ct := fun σ H => Sat K B (O' (pre ++ [y])) (L0 (pre ++ [y])) σ H, bk := D.nx }))
    (hd : Nx K B (O' ys) (L0 ys) D.nx) : Nx K B O L (tFor (iTup K (tC (.ref a))) g tu D) :=
  s_forTW (enc := enc) h (fun pre σ H => Sat K B (O' pre) (L0 pre) σ H) (fun pre σ H s => s.ex) h0
    (fun pre y post e σ H v s r => hg pre y σ H v s r _ fun σ' s' => hs pre y post e σ' H s') hd
/-- while: frames told by a state of one's own -/
theorem s_while {β : Type} (S : β) (O' : β → Own) (L0 : β → Sl) (I : β → Prop) (μ : β → Nat) (hi : I S) (h0 : Nx K B O L fun σ H => Sat K B (O' S) (L0 S) σ H)
    (hs : ∀ b, I b → ∃ c, EvT K B (O' b) (L0 b) t c ∧ (c = true → Nx K B (O' b) (L0 b) (tu { D with nx := fun σ H => ∃ b', I b' ∧ μ b' < μ b ∧ Sat K B (O' b') (L0 b') σ H, ct := fun σ H => ∃ b', I b' ∧ μ b' < μ b ∧ Sat K B (O' b') (L0 b') σ H, bk := D.nx })) ∧
      (c = false → Nx K B (O' b) (L0 b) D.nx)) : Nx K B O L (tWhile t tu D) := fun σ H s => by
  refine ⟨fun m σ H => ∃ b, I b ∧ μ b = m ∧ Sat K B (O' b) (L0 b) σ H, ⟨_, S, hi, rfl, h0 σ H s⟩, ?_⟩
  rintro m σ H ⟨b, hb, rfl, s⟩
  obtain ⟨c, hc, h1, h2⟩ := hs b hb
  refine hc σ H s _ fun H1 e1 => ?_
  cases c with
  | true => exact ⟨_, fun σ' H' ⟨b', hb', hm, s'⟩ => ⟨_, hm, b', hb', rfl, s'⟩, h1 rfl σ H1 (s.same e1)⟩
  | false => exact h2 rfl σ H1 (s.same e1)
/-! ### comprehensions -/
theorem Ev.more {r : Rs} {X : Own} (h : Ev K B O L te r) : Ev K B (O ++ X) L te r := fun σ H s Q q =>
  h σ H ⟨s.ex, fun p hp => s.own p (List.mem_append_left _ hp), (by have := s.nd; rw [List.map_append, List.nodup_append] at this; exact this.1), s.len, s.loc⟩ Q q
theorem EvT.more {b : Bool} {X : Own} (h : EvT K B O L t b) : EvT K B (O ++ X) L t b := fun σ H s Q q =>
  h σ H ⟨s.ex, fun p hp => s.own p (List.mem_append_left _ hp), (by have := s.nd; rw [List.map_append, List.nodup_append] at this; exact this.1), s.len, s.loc⟩ Q q
theorem wipe1 (σ : L2.St) (j : Nat) (x : Option V) : wipe ((wipe σ [j]).set j x) [j] = wipe σ [j] := by
  show ((σ.set j none).set j x).set j none = σ.set j none
  rw [List.set_set, List.set_set]
theorem Sat.wiped {σ : L2.St} {H : Hp} {j : Nat} {v : V} {d : Dt} (s : Sat K B O L σ H) (h : Tp K H v d) : Sat K B O (L.set j (some d)) ((wipe σ [j]).set j (some v)) H := by
  show Sat K B O (L.set j (some d)) ((σ.set j none).set j (some v)) H
  rw [List.set_set]
  exact s.set h
/-- what the new list bears at a turn -/
structure LcW (K : Fg) (H0 : Hp) (Dl : Addr) (ds : List Dt) (H : Hp) : Prop where
  new : H0 Dl = none
  ex : Same H0 H
  lst : ∃ vs, H Dl = some (.lst vs) ∧ TpA K H vs ds
theorem LcW.add {H0 H H1 : Hp} {Dl : Addr} {ds : List Dt} {d : Dt} {v : V} (w : LcW K H0 Dl ds H) (e : Same H H1) (r : Tp K H1 v d) (hz : ds.length < 100000) :
    ∃ acc, H1 Dl = some (.lst acc) ∧ acc.length < sizeLine ∧ LcW K H0 Dl (ds ++ [d]) (upd H1 Dl (.lst (acc ++ [v]))) := by
  obtain ⟨vs, h1, h2⟩ := w.lst
  have m : Mut (H1 Dl) := by rw [e _ _ h1]; trivial
  refine ⟨vs, e _ _ h1, by rw [h2.length, sizeLine_eq]; omega, w.new, fun b o q => ?_, vs ++ [v], upd_same, ((h2.same e).append (.cons r .nil)).keep (.mut m)⟩
  rw [upd_ne (ne_of_none q w.new)]
  exact e _ _ (w.ex b o q)
theorem filter_snoc {α β : Type} (p : α → Bool) (f : α → β) (pre : List α) (y : α) : ((pre ++ [y]).filter p).map f = (pre.filter p).map f ++ (if p y = true then [f y] else []) := by
  rw [List.filter_append, List.map_append]
  by_cases h : p y = true
  · rw [if_pos h, List.filter_cons, if_pos h]
    rfl
  · rw [if_neg h, List.filter_cons, if_neg h]
    rfl
/-- one turn of a comprehension -/
theorem lc_turn {α : Type} {enc : α → Dt} {p : α → Bool} {f : α → Dt} {tt : TT} {j : Nat} {σ : L2.St} {H0 H : Hp} {Dl : Addr} {y : α} {pre : List α} {v : V} (s : Sat K B O L σ H0) (w : LcW K H0 Dl ((pre.filter p).map f) H) (r : Tp K H v (enc y)) (hz : pre.length < 100000)
    (ht : EvT K B O (L.set j (some (enc y))) tt (p y)) (he : p y = true → Ev K B O (L.set j (some (enc y))) te (.dat (f y))) :
    gName j v (wipe σ [j]) H fun σ2 H2 => wipe σ2 [j] = wipe σ [j] ∧ tt σ2 H2 fun b H3 =>
      if b = true then te σ2 H3 fun y H4 => ∃ acc, H4 Dl = some (.lst acc) ∧ acc.length < sizeLine ∧ LcW K H0 Dl (((pre ++ [_root_.id ‹α›]).filter p).map f) (upd H4 Dl (.lst (acc ++ [y]))) else LcW K H0 Dl (((pre ++ [_root_.id ‹α›]).filter p).map f) H3 := by
  have sj := (s.same w.ex).wiped (j := j) r
  refine ⟨wipe1 σ j _, ht _ H sj _ fun H3 e3 => ?_⟩
  cases hp : p y with
  | true =>
    show te _ H3 _
    refine he hp _ H3 (sj.same e3) _ fun u H4 e4 r4 => ?_
    have l : ((pre.filter p).map f).length < 100000 := by
      rw [List.length_map]
      exact Nat.lt_of_le_of_lt (List.length_filter_le _ _) hz
    show ∃ acc, H4 Dl = some (.lst acc) ∧ acc.length < sizeLine ∧ LcW K H0 Dl (((pre ++ [y]).filter p).map f) _
    rw [filter_snoc, hp, if_pos rfl]
    exact w.add (e3.trans e4) r4 l
  | false =>
    show LcW K H0 Dl (((pre ++ [y]).filter p).map f) H3
    rw [filter_snoc, hp, if_neg (by decide), List.append_nil]
    exact ⟨w.new, w.ex.trans e3, let ⟨vs, h1, h2⟩ := w.lst; ⟨vs, e3 _ _ h1, h2.same e3⟩⟩
/-- [e for x in xs if t], xs a list known by its address -/
theorem ev_lcA {α : Type} {enc : α → Dt} {ys : List α} {p : α → Bool} {f : α → Dt} {tt : TT} {j : Nat} {a : Addr} {tl : TE} (h : Ev K B O L tl (.dat (.adr a))) (hl : Ls K B O (.dat (.adr a)) (ys.map enc)) (hz : ys.length ≤ 100000)
    (ht : ∀ y, y ∈ ys → EvT K B O (L.set j (some (enc y))) tt (p y)) (he : ∀ y, y ∈ ys → p y = true → Ev K B O (L.set j (some (enc y))) te (.dat (f y))) :
    Ev K B O L (tLc (iList K tl) (gName j) tt te [j]) (.new (.lst ((ys.filter p).map f))) := fun σ H s Q q =>
  h σ H s _ fun v H1 e1 r1 => by
    have s1 := s.same e1
    obtain ⟨b, vs, hb, h2, h3⟩ := hl L σ H1 H1 v s1 (.refl _) r1
    cases r1
    cases hb
    refine ⟨a, rfl, ⟨vs, h2⟩, fun Dl hD => lc_list (xs := vs) (fun i H => LcW K H1 Dl (((ys.take i).filter p).map f) H) ⟨hD, Same.new hD, [], upd_same, .nil⟩ (fun i H' _ w => w.ex.seq h2) (fun i x H' hx w => ?_) fun H' w => ?_⟩
    · obtain ⟨d, hd, rd⟩ := h3.getV hx
      rw [List.getElem?_map] at hd
      cases hy : ys[i]? with
      | none => rw [hy] at hd; cases hd
      | some y =>
        rw [hy] at hd
        cases hd
        have hlt : i < ys.length := (List.getElem?_eq_some_iff.mp hy).1
        have et : ys.take (i + 1) = ys.take i ++ [y] := by rw [List.take_add_one, hy]; rfl
        rw [et]
        have hm : y ∈ ys := List.mem_of_getElem? hy
        exact lc_turn (y := y) s1 w (rd.same w.ex) (by rw [List.length_take]; omega) (ht y hm) (he y hm)
    · have el : vs.length = ys.length := by rw [h3.length]; simp
      rw [el, List.take_length] at w
      obtain ⟨ws, h5, h6⟩ := w.lst
      exact q _ H' (e1.trans w.ex) ⟨Dl, rfl, e1.free hD, ws, h5, h6⟩
/-- the source is new -/
theorem ev_lcN {g : TG} {tt : TT} {vs : List Nat} {tl : TE} {ob : Ob} {r : Rs} (h : Ev K B O L tl (.new ob)) (k : ∀ p, Ev K B (O ++ [(p, ob)]) L (tLc (iList K (tC (.ref p))) g tt te vs) r) : Ev K B O L (tLc (iList K tl) g tt te vs) r := fun σ H s Q q =>
  h σ H s _ fun v H1 e1 ⟨p, hv, hn, r1⟩ => by
    subst hv
    exact k p σ H1 (s.addOwn e1 hn r1) Q fun v H2 e2 r2 => q v H2 (e1.trans e2) (r2.back e1)
theorem ev_lcNew {α : Type} {enc : α → Dt} {ys : List α} {p : α → Bool} {f : α → Dt} {tt : TT} {j : Nat} {tl : TE} (h : Ev K B O L tl (.new (.lst (ys.map enc)))) (hz : ys.length ≤ 100000)
    (ht : ∀ y, y ∈ ys → EvT K B O (L.set j (some (enc y))) tt (p y)) (he : ∀ y, y ∈ ys → p y = true → Ev K B O (L.set j (some (enc y))) te (.dat (f y))) :
    Ev K B O L (tLc (iList K tl) (gName j) tt te [j]) (.new (.lst ((ys.filter p).map f))) :=
  ev_lcN h fun q => ev_lcA (enc := enc) ev_adr (Ls.own (j := O.length) (by simp)) hz (fun y hy => (ht y hy).more) fun y hy hp => (he y hy hp).more
/-- over a tuple -/
theorem ev_lcT {α : Type} {enc : α → Dt} {ys : List α} {p : α → Bool} {f : α → Dt} {tt : TT} {j : Nat} {tl : TE} (h : Ev K B O L tl (.dat (.tup (ys.map enc)))) (hz : ys.length ≤ 100000)
    (ht : ∀ y, y ∈ ys → EvT K B O (L.set j (some (enc y))) tt (p y)) (he : ∀ y, y ∈ ys → p y = true → Ev K B O (L.set j (some (enc y))) te (.dat (f y))) :
    Ev K B O L (tLc (iTup K tl) (gName j) tt te [j]) (.new (.lst ((ys.filter p).map f))) := fun σ H s Q q =>
  h σ H s _ fun v H1 e1 r1 => by
    have s1 := s.same e1
    cases r1 with
    | tup h2 h3 =>
      rename_i a vs
      refine ⟨a, rfl, ⟨vs, h2⟩, fun Dl hD => lc_tup (xs := vs) (fun i H => LcW K H1 Dl (((ys.take i).filter p).map f) H) ⟨hD, Same.new hD, [], upd_same, .nil⟩ (fun i H' _ w => keep_t (.of w.ex) h2) (fun i x H' hx w => ?_) fun H' w => ?_⟩
      · obtain ⟨d, hd, rd⟩ := h3.getV hx
        rw [List.getElem?_map] at hd
        cases hy : ys[i]? with
        | none => rw [hy] at hd; cases hd
        | some y =>
          rw [hy] at hd
          cases hd
          have hlt : i < ys.length := (List.getElem?_eq_some_iff.mp hy).1
          have et : ys.take (i + 1) = ys.take i ++ [y] := by rw [List.take_add_one, hy]; rfl
          rw [et]
          have hm : y ∈ ys := List.mem_of_getElem? hy
          exact lc_turn (y := y) s1 w (rd.same w.ex) (by rw [List.length_take]; omega) (ht y hm) (he y hm)
      · have el : vs.length = ys.length := by rw [h3.length]; simp
        rw [el, List.take_length] at w
        obtain ⟨ws, h5, h6⟩ := w.lst
        exact q _ H' (e1.trans w.ex) ⟨Dl, rfl, e1.free hD, ws, h5, h6⟩
/-- over range(n) -/
theorem ev_lcR {n : Nat} {p : Nat → Bool} {f : Nat → Dt} {tt : TT} {j : Nat} {ta : TA} (h : EvD K B O L ta [.int n]) (hn : n ≤ 100000)
    (ht : ∀ y, y < n → EvT K B O (L.set j (some (.int (y : Nat)))) tt (p y)) (he : ∀ y, y < n → p y = true → Ev K B O (L.set j (some (.int (y : Nat)))) te (.dat (f y))) :
    Ev K B O L (tLc (iRng1 ta) (gName j) tt te [j]) (.new (.lst (((List.range n).filter p).map f))) := fun σ H s Q q =>
  h σ H s _ fun vs H1 e1 r1 => by
    have s1 := s.same e1
    have r2 := r1.dats
    cases r2 with
    | cons r t =>
      cases t
      cases r
      refine ⟨(n : Int), rfl, by omega, by omega, fun Dl hD => lc_range (lo := 0) (n := (n : Int).toNat) (fun i H => LcW K H1 Dl (((List.range i).filter p).map f) H) ⟨hD, Same.new hD, [], upd_same, .nil⟩ (fun i H' hi w => ?_) fun H' w => ?_⟩
      · have hi' : i < n := by simpa using hi
        have e0 : (0 : Int) + (i : Int) = (i : Int) := Int.zero_add _
        rw [List.range_succ]
        show gName j (.int ((0 : Int) + (i : Int))) _ _ _
        rw [e0]
        exact lc_turn (enc := fun (y : Nat) => Dt.int y) (y := i) s1 w (.int _) (by rw [List.length_range]; omega) (ht i hi') (he i hi')
      · have en : (n : Int).toNat = n := by simp
        rw [en] at w
        obtain ⟨ws, h5, h6⟩ := w.lst
        exact q _ H' (e1.trans w.ex) ⟨Dl, rfl, e1.free hD, ws, h5, h6⟩
theorem et_yes : EvT K B O L tYes true := fun σ H s Q q => q H (.refl H)
end
end GT
namespace GT
open PySem PySem.Spec PyProof.Rows L2
/-! ### calls of own defs -/
/-- what an argument is -/
inductive As where
  | dat (d : Dt)
  | lst (ds : List Dt)
  | any (φ : Hp → V → Prop)
def AsR (K : Fg) (H : Hp) (v : V) : As → Prop
  | .dat d => Tp K H v d
  | .lst ds => LsR K H v ds
  | .any φ => φ H v
inductive AsA (K : Fg) (H : Hp) : List V → List As → Prop
  | nil : AsA K H [] []
  | cons {v : V} {vs : List V} {a : As} {as : List As} : AsR K H v a → AsA K H vs as → AsA K H (v :: vs) (a :: as)
theorem AsA.length {K : Fg} {H : Hp} : ∀ {vs : List V} {as : List As}, AsA K H vs as → vs.length = as.length
  | _, _, .nil => rfl
  | _, _, .cons _ t => congrArg (· + 1) (AsA.length t)
def AsOf (K : Fg) (B : Hp) (O : Own) (r : Rs) (a : As) : Prop := ∀ L σ H H2 v, Sat K B O L σ H → Same H H2 → RsR K H H2 v r → AsR K H2 v a
inductive AsAll (K : Fg) (B : Hp) (O : Own) : List Rs → List As → Prop
  | nil : AsAll K B O [] []
  | cons {r : Rs} {rs : List Rs} {a : As} {as : List As} : AsOf K B O r a → AsAll K B O rs as → AsAll K B O (r :: rs) (a :: as)
section
variable {K : Fg} {B : Hp} {O : Own} {L : Sl}
theorem AsOf.dat {d : Dt} : AsOf K B O (.dat d) (.dat d) := fun _ _ _ _ _ _ _ r => r
theorem AsOf.lst {r : Rs} {ds : List Dt} (h : Ls K B O r ds) : AsOf K B O r (.lst ds) := fun L σ H H2 v s e x => h L σ H H2 v s e x
theorem AsAll.run {σ : L2.St} {H H2 : Hp} (s : Sat K B O L σ H) (e : Same H H2) : ∀ {vs : List V} {rs : List Rs} {as : List As}, AsAll K B O rs as → RsA K H H2 vs rs → AsA K H2 vs as
  | _, _, _, .nil, .nil => .nil
  | _, _, _, .cons h t, .cons r rt => .cons (h L σ H H2 _ s e r) (AsAll.run s e t rt)
end
/-- a promise: nothing is changed, the answer is res x -/
def SpF (K : Fg) {α : Type} (as : α → List As) (pre : α → Prop) (res : α → Rs) : Sp := fun vs H Q _ => ∃ x, pre x ∧ AsA K H vs (as x) ∧ Rt K H Q (res x)
/-- .. or an exception of the class at C, where ok is false -/
def SpX (K : Fg) (C : Addr) {α : Type} (as : α → List As) (pre : α → Prop) (ok : α → Bool) (res : α → Rs) : Sp := fun vs H Q E => ∃ x, pre x ∧ AsA K H vs (as x) ∧ (ok x = true → Rt K H Q (res x)) ∧ (ok x = false → ∀ H', Same H H' → E (.ref C) none H')
section
variable {K : Fg} {B : Hp} {O : Own} {L : Sl} {te ta tb tx : TE} {t : TT} {E : XK}
theorem ev_call {α : Type} {as : α → List As} {pre : α → Prop} {res : α → Rs} {tr : TA} {rs : List Rs} (x : α) (h : EvA K B O L tr rs) (hp : pre x) (ha : AsAll K B O rs (as x)) : Ev K B O L (tCall (SpF K as pre res) [] E tr) (res x) := fun σ H s Q q =>
  h σ H s _ fun vs H1 e1 r1 => by
    show SpF K as pre res (vs ++ []) H1 Q E
    rw [List.append_nil]
    exact ⟨x, hp, ha.run s e1 r1, fun v H2 e2 r2 => q v H2 (e1.trans e2) (r2.back e1)⟩
theorem ev_callX {α : Type} {as : α → List As} {pre : α → Prop} {ok : α → Bool} {res : α → Rs} {C : Addr} {tr : TA} {rs : List Rs} (x : α) (h : EvA K B O L tr rs) (hp : pre x) (ho : ok x = true) (ha : AsAll K B O rs (as x)) : Ev K B O L (tCall (SpX K C as pre ok res) [] E tr) (res x) := fun σ H s Q q =>
  h σ H s _ fun vs H1 e1 r1 => by
    show SpX K C as pre ok res (vs ++ []) H1 Q E
    rw [List.append_nil]
    exact ⟨x, hp, ha.run s e1 r1, fun _ v H2 e2 r2 => q v H2 (e1.trans e2) (r2.back e1), fun z => by rw [ho] at z; cases z⟩
/-- r is an instance of C without an attribute m -/
def IsI (K : Fg) (B : Hp) (O : Own) (C : Addr) (m : Str) (r : Rs) : Prop := ∀ L σ H H2 v, Sat K B O L σ H → Same H H2 → RsR K H H2 v r → ∃ a dx fs, v = .ref a ∧ H2 a = some (.ins C dx fs) ∧ fs.lookup m = none
theorem ev_meth {α : Type} {as : α → List As} {pre : α → Prop} {res : α → Rs} {C : Addr} {m : Str} {tr : TA} {r : Rs} {rs : List Rs} (x : α) (ho : Ev K B O L ta r) (hi : IsI K B O C m r) (h : EvA K B O L tr rs) (hp : pre x) (ha : AsAll K B O (r :: rs) (as x)) :
    Ev K B O L (tMeth C m (SpF K as pre res) [] E ta tr) (res x) := fun σ H s Q q =>
  ho σ H s _ fun v H1 e1 r1 => by
    obtain ⟨a, dx, fs, rfl, hv, hm⟩ := hi L σ H H1 v s e1 r1
    refine ⟨a, dx, fs, rfl, hv, hm, h σ H1 (s.same e1) _ fun vs H2 e2 r2 => ?_⟩
    show SpF K as pre res (.ref a :: (vs ++ [])) H2 Q E
    rw [List.append_nil]
    exact ⟨x, hp, ha.run s (e1.trans e2) (.cons (r1.same e2) (r2.back e1)), fun v H3 e3 r3 => q v H3 ((e1.trans e2).trans e3) (r3.back (e1.trans e2))⟩
theorem ev_methX {α : Type} {as : α → List As} {pre : α → Prop} {ok : α → Bool} {res : α → Rs} {C C' : Addr} {m : Str} {tr : TA} {r : Rs} {rs : List Rs} (x : α) (ho : Ev K B O L ta r) (hi : IsI K B O C m r) (h : EvA K B O L tr rs) (hp : pre x) (hk : ok x = true) (ha : AsAll K B O (r :: rs) (as x)) :
    Ev K B O L (tMeth C m (SpX K C' as pre ok res) [] E ta tr) (res x) := fun σ H s Q q =>
  ho σ H s _ fun v H1 e1 r1 => by
    obtain ⟨a, dx, fs, rfl, hv, hm⟩ := hi L σ H H1 v s e1 r1
    refine ⟨a, dx, fs, rfl, hv, hm, h σ H1 (s.same e1) _ fun vs H2 e2 r2 => ?_⟩
    show SpX K C' as pre ok res (.ref a :: (vs ++ [])) H2 Q E
    rw [List.append_nil]
    exact ⟨x, hp, ha.run s (e1.trans e2) (.cons (r1.same e2) (r2.back e1)), fun _ v H3 e3 r3 => q v H3 ((e1.trans e2).trans e3) (r3.back (e1.trans e2)), fun z => by rw [hk] at z; cases z⟩
end
/-! ### a def's body -/
theorem sat_start {K : Fg} {B : Hp} {N : List Str} {vs : List V} {ds : List Dt} (h : TpA K B vs ds) (hN : ds.length ≤ N.length) : Sat K B [] (ds.map some ++ List.replicate (N.length - ds.length) none) (L2.start N vs) B := by
  refine ⟨.refl B, fun p hp => absurd hp (by simp), by simp, ?_, fun i d e => ?_⟩
  · unfold L2.start
    rw [List.length_append, List.length_append, List.length_map, List.length_map, List.length_replicate, List.length_replicate, h.length]
  · have hi : i < ds.length := by
      by_cases hi : i < ds.length
      · exact hi
      · rw [List.getElem?_append_right (by simpa using hi), List.getElem?_replicate] at e
        split at e <;> cases e
    rw [List.getElem?_append_left (by simpa using hi), List.getElem?_map] at e
    cases hd : ds[i]? with
    | none => rw [hd] at e; cases e
    | some d' =>
      rw [hd] at e
      cases e
      obtain ⟨v, h1, h2⟩ := h.get hd
      refine ⟨v, ?_, h2⟩
      unfold L2.start
      rw [List.getElem?_append_left (by have := (List.getElem?_eq_some_iff.mp h1).1; simpa using this), List.getElem?_map, h1]
      rfl
theorem body_at {K : Fg} {B : Hp} {N : List Str} {vs : List V} (ds : List Dt) {L : Sl} {P : L2.St → Hp → Prop} (h : TpA K B vs ds) (hn : Nx K B [] L P) (hN : Nat.ble ds.length N.length = true := by rfl) (hL : ds.map some ++ List.replicate (N.length - ds.length) none = L := by rfl) : P (L2.start N vs) B :=
  hn _ _ (hL ▸ sat_start h (Nat.le_of_ble_eq_true hN))
section
variable {P : Program} {w : World} {K : Fg} {mg : Str → Option Value} {base : Heap}
theorem fun_ok {x qual : Str} {st : Stmt} {f : Addr} {fd : FuncData} {N ps : List Str} {k : Nat} {α : Type} {as : α → List As} {pre : α → Prop} {res : α → Rs} (F : Fun K x qual st f fd) (S : FnScope N ps (defScope st)) (len : ∀ x, (as x).length = ps.length)
    (hbody : ∀ (cdv : Value) (A : Around) (outer : List Env) (s : Shared) (B : Hp) (vs : List V) (R : VK) (E : XK) (x : α), Room k (A.deeper (envOfC qual (defScope st) s.heap.objs.size f cdv)) → pre x → AsA K B vs (as x) → Rt K B R (res x) →
      ∃ t, PSs (cxOf CX0 P w K mg base N qual (defScope st) f cdv A outer s B E).nox (defBody st) t ∧ t { nx := fun _ H' => R .non H', rt := R } (L2.start N vs) B) : FnOk P w K mg base CX0 (k + 1) f fd ps (SpF K as pre res) :=
  F.ok S (fun vs H Q E ⟨y, _, h, _⟩ => h.length.trans (len y)) fun cdv A outer s H vs Q E hr ⟨y, hp, ha, hq⟩ => hbody cdv A outer s H vs Q E y hr hp ha hq
end
/-! ### built-ins -/
section
variable {K : Fg} {B : Hp} {O : Own} {L : Sl} {te ta tb tx : TE} {t : TT}
theorem ev_cb {r : List V → Hp → VK → Prop} {tr : TA} {ds : List Dt} {z : Rs} (h : EvD K B O L tr ds)
    (hr : ∀ σ H, Sat K B O L σ H → ∀ vs, TpA K H vs ds → ∀ Q : VK, (∀ v H2, Same H H2 → RsR K H H2 v z → Q v H2) → r vs H Q) : Ev K B O L (tCB r tr) z := fun σ H s Q q =>
  h σ H s _ fun vs H1 e1 r1 => hr σ H1 (s.same e1) vs r1.dats Q fun v H2 e2 r2 => q v H2 (e1.trans e2) (r2.back e1)
/-- of one thing to be read as a list -/
theorem ev_cbL {r : List V → Hp → VK → Prop} {x : Rs} {ds : List Dt} {z : Rs} (h : Ev K B O L ta x) (hl : Ls K B O x ds)
    (hr : ∀ σ H, Sat K B O L σ H → ∀ a vs, SqL K H a vs → TpA K H vs ds → ∀ Q : VK, (∀ v H2, Same H H2 → RsR K H H2 v z → Q v H2) → r [.ref a] H Q) : Ev K B O L (tCB r (tCons ta tNil)) z := fun σ H s Q q =>
  h σ H s _ fun v H1 e1 r1 => by
    obtain ⟨a, vs, rfl, h2, h3⟩ := hl L σ H H1 v s e1 r1
    exact hr σ H1 (s.same e1) a vs h2 h3 Q fun v H2 e2 r2 => q v H2 (e1.trans e2) (r2.back e1)
theorem ev_abs {i : Int} (h : Ev K B O L ta (.dat (.int i))) : Ev K B O L (tCB (fun xs H Q => ∃ i, xs = [.int i] ∧ Q (.int (if i < 0 then -i else i)) H) (tCons ta tNil)) (.dat (.int (if i < 0 then -i else i))) :=
  ev_cb (ed_cons h ed_nil) fun σ H s vs hv Q q => by
    cases hv with
    | cons r t =>
      cases t
      cases r
      exact ⟨i, rfl, q _ H (.refl H) (.int _)⟩
theorem ev_min2 {i j : Int} (h : Ev K B O L ta (.dat (.int i))) (h' : Ev K B O L tb (.dat (.int j))) : Ev K B O L (tCB (fun xs H Q => ∃ i j, xs = [.int i, .int j] ∧ Q (.int (if j < i then j else i)) H) (tCons ta (tCons tb tNil))) (.dat (.int (if j < i then j else i))) :=
  ev_cb (ed_cons h (ed_cons h' ed_nil)) fun σ H s vs hv Q q => by
    cases hv with
    | cons r t =>
      cases t with
      | cons r' t' =>
        cases t'
        cases r
        cases r'
        exact ⟨i, j, rfl, q _ H (.refl H) (.int _)⟩
theorem ev_max2 {i j : Int} (h : Ev K B O L ta (.dat (.int i))) (h' : Ev K B O L tb (.dat (.int j))) : Ev K B O L (tCB (fun xs H Q => ∃ i j, xs = [.int i, .int j] ∧ Q (.int (if j > i then j else i)) H) (tCons ta (tCons tb tNil))) (.dat (.int (if j > i then j else i))) :=
  ev_cb (ed_cons h (ed_cons h' ed_nil)) fun σ H s vs hv Q q => by
    cases hv with
    | cons r t =>
      cases t with
      | cons r' t' =>
        cases t'
        cases r
        cases r'
        exact ⟨i, j, rfl, q _ H (.refl H) (.int _)⟩
theorem ev_intB {b : Bool} (h : Ev K B O L ta (.dat (.bl b))) : Ev K B O L (tCB (fun xs H Q => (∃ i, xs = [.int i] ∧ Q (.int i) H) ∨ ∃ k, xs = [.bl k] ∧ Q (.int (if k then 1 else 0)) H) (tCons ta tNil)) (.dat (.int (if b then 1 else 0))) :=
  ev_cb (ed_cons h ed_nil) fun σ H s vs hv Q q => by
    cases hv with
    | cons r t =>
      cases t
      cases r
      exact .inr ⟨b, rfl, q _ H (.refl H) (.int _)⟩
theorem ev_strI {i : Int} (h : Ev K B O L ta (.dat (.int i))) (hz : i.natAbs.log2 < 1920) : Ev K B O L (tCB (fun xs H Q => ∃ i, xs = [.int i] ∧ i.natAbs.log2 < 1920 ∧ Q (.str (toString i)) H) (tCons ta tNil)) (.dat (.str (toString i))) :=
  ev_cb (ed_cons h ed_nil) fun σ H s vs hv Q q => by
    cases hv with
    | cons r t =>
      cases t
      cases r
      exact ⟨i, rfl, hz, q _ H (.refl H) (.str _)⟩
theorem ev_lenL {x : Rs} {ds : List Dt} (h : Ev K B O L ta x) (hl : Ls K B O x ds) : Ev K B O L (tCB (fun xs H Q => ∃ p ys, xs = [.ref p] ∧ (SqL K H p ys ∨ SqT K H p ys) ∧ Q (.int ys.length) H) (tCons ta tNil)) (.dat (.int ds.length)) :=
  ev_cbL h hl fun σ H s a vs h2 h3 Q q => ⟨a, vs, rfl, .inl h2, q _ H (.refl H) (by rw [h3.length]; exact .int _)⟩
theorem ev_lenT {ds : List Dt} (h : Ev K B O L ta (.dat (.tup ds))) : Ev K B O L (tCB (fun xs H Q => ∃ p ys, xs = [.ref p] ∧ (SqL K H p ys ∨ SqT K H p ys) ∧ Q (.int ys.length) H) (tCons ta tNil)) (.dat (.int ds.length)) :=
  ev_cb (ed_cons h ed_nil) fun σ H s vs hv Q q => by
    cases hv with
    | cons r t =>
      cases t
      cases r with
      | tup h1 h2 => exact ⟨_, _, rfl, .inr h1, q _ H (.refl H) (by rw [h2.length]; exact .int _)⟩
theorem ev_lenS {z : Str} (h : Ev K B O L ta (.dat (.str z))) (hz : z.length ≤ 100000) : Ev K B O L (tCB (fun xs H Q => ∃ z, xs = [.str z] ∧ z.length ≤ sizeLine ∧ Q (.int z.length) H) (tCons ta tNil)) (.dat (.int z.length)) :=
  ev_cb (ed_cons h ed_nil) fun σ H s vs hv Q q => by
    cases hv with
    | cons r t =>
      cases t
      cases r
      exact ⟨z, rfl, by rw [sizeLine_eq]; omega, q _ H (.refl H) (.int _)⟩
/-- list(xs) -/
theorem ev_listL {x : Rs} {ds : List Dt} (h : Ev K B O L ta x) (hl : Ls K B O x ds) : Ev K B O L (tCB (fun xs H Q => ∃ p ys, xs = [.ref p] ∧ (SqL K H p ys ∨ SqT K H p ys) ∧ ∀ l, H l = none → Q (.ref l) (upd H l (.lst ys))) (tCons ta tNil)) (.new (.lst ds)) :=
  ev_cbL h hl fun σ H s a vs h2 h3 Q q => ⟨a, vs, rfl, .inl h2, fun l hl => q _ _ (Same.new hl) ⟨l, rfl, hl, vs, upd_same, h3.same (Same.new hl)⟩⟩
theorem ev_listT {ds : List Dt} (h : Ev K B O L ta (.dat (.tup ds))) : Ev K B O L (tCB (fun xs H Q => ∃ p ys, xs = [.ref p] ∧ (SqL K H p ys ∨ SqT K H p ys) ∧ ∀ l, H l = none → Q (.ref l) (upd H l (.lst ys))) (tCons ta tNil)) (.new (.lst ds)) :=
  ev_cb (ed_cons h ed_nil) fun σ H s vs hv Q q => by
    cases hv with
    | cons r t =>
      cases t
      cases r with
      | tup h1 h2 => exact ⟨_, _, rfl, .inr h1, fun l hl => q _ _ (Same.new hl) ⟨l, rfl, hl, _, upd_same, h2.same (Same.new hl)⟩⟩
/-- tuple(xs) -/
theorem ev_tupL {x : Rs} {ds : List Dt} (h : Ev K B O L ta x) (hl : Ls K B O x ds) : Ev K B O L (tCB (fun xs H Q => ∃ p ys, xs = [.ref p] ∧ ((SqL K H p ys ∧ ∀ l, H l = none → Q (.ref l) (upd H l (.tup ys))) ∨ (SqT K H p ys ∧ Q (.ref p) H))) (tCons ta tNil)) (.dat (.tup ds)) :=
  ev_cbL h hl fun σ H s a vs h2 h3 Q q => ⟨a, vs, rfl, .inl ⟨h2, fun l hl => q _ _ (Same.new hl) (.tup (.of upd_same) (h3.same (Same.new hl)))⟩⟩
/-! isinstance -/
def tyD : Dt → Option String
  | .non => some "NoneType"
  | .bl _ => some "bool"
  | .int _ => some "int"
  | .str _ => some "str"
  | .tup _ => some "tuple"
  | .adr _ => none
theorem Tp.ty {H : Hp} {v : V} {d : Dt} {t : String} (h : Tp K H v d) (e : tyD d = some t) : TyX K H v (.type t) := by
  cases h with
  | non => cases e; exact .base .non
  | bl b => cases e; exact .base (.bl b)
  | int i => cases e; exact .base (.int i)
  | str x => cases e; exact .base (.str x)
  | adr a => cases e
  | tup h1 h2 =>
    cases e
    rcases h1 with (h1 | ⟨o, h1⟩) | ⟨o, its, n, h1, h2, _⟩
    · exact .base (.tup h1)
    · exact .fTuple h1
    · exact .kTuple h1 h2
theorem ev_isi {d : Dt} {t n : String} {b : Bool} (h : Ev K B O L ta (.dat d)) (ht : tyD d = some t) (hb : kitB t n = some b) : Ev K B O L (tCB (rIsi K) (tCons ta (tCons (tC (.ty n)) tNil))) (.dat (.bl b)) := fun σ H s Q q =>
  h σ H s _ fun v H1 e1 r1 => ⟨v, .ty n, .type t, .type n, b, rfl, .ty n, r1.ty ht, kit_ty hb, q _ H1 e1 (.bl b)⟩
theorem ev_isiL {x : Rs} {ds : List Dt} {n : String} {b : Bool} (h : Ev K B O L ta x) (hl : Ls K B O x ds) (hb : kitB "list" n = some b) : Ev K B O L (tCB (rIsi K) (tCons ta (tCons (tC (.ty n)) tNil))) (.dat (.bl b)) := fun σ H s Q q =>
  h σ H s _ fun v H1 e1 r1 => by
    obtain ⟨a, vs, rfl, h2, h3⟩ := hl L σ H H1 v s e1 r1
    refine ⟨_, .ty n, .type "list", .type n, b, rfl, .ty n, ?_, kit_ty hb, q _ H1 e1 (.bl b)⟩
    rcases h2 with (h2 | ⟨o, h2⟩) | ⟨o, its, n, h1, h2, _⟩
    · exact .base (.lst h2)
    · exact .base (.frz h2)
    · exact .kList h1 h2
/-! sum, all, min, max -/
theorem ev_sum {x : Rs} {ns : List Int} (h : Ev K B O L ta x) (hl : Ls K B O x (ns.map .int)) : Ev K B O L (tCB (rSum K) (tCons ta tNil)) (.dat (.int ns.sum)) :=
  ev_cbL h hl fun σ H s a vs h2 h3 Q q => ⟨a, ns, rfl, by rw [← h3.ints]; exact h2, q _ H (.refl H) (.int _)⟩
theorem ev_all {x : Rs} {bs : List Bool} (h : Ev K B O L ta x) (hl : Ls K B O x (bs.map .bl)) : Ev K B O L (tCB (rAll K) (tCons ta tNil)) (.dat (.bl (bs.all id))) :=
  ev_cbL h hl fun σ H s a vs h2 h3 Q q => ⟨a, bs, rfl, by rw [← h3.bls]; exact h2, q _ H (.refl H) (.bl _)⟩
def IsMin (ns : List Int) (m : Int) : Prop := m ∈ ns ∧ ∀ y, y ∈ ns → m ≤ y
def IsMax (ns : List Int) (m : Int) : Prop := m ∈ ns ∧ ∀ y, y ∈ ns → y ≤ m
theorem IsMin.one {ns : List Int} {m k : Int} (h : IsMin ns m) (h' : IsMin ns k) : m = k := Int.le_antisymm (h.2 _ h'.1) (h'.2 _ h.1)
theorem IsMax.one {ns : List Int} {m k : Int} (h : IsMax ns m) (h' : IsMax ns k) : m = k := Int.le_antisymm (h'.2 _ h.1) (h.2 _ h'.1)
theorem ev_minL {x : Rs} {ns : List Int} {m : Int} (h : Ev K B O L ta x) (hl : Ls K B O x (ns.map .int)) (hm : IsMin ns m) : Ev K B O L (tCB (rMin K) (tCons ta tNil)) (.dat (.int m)) :=
  ev_cbL h hl fun σ H s a vs h2 h3 Q q => ⟨a, ns, rfl, by rw [← h3.ints]; exact h2, List.length_pos_of_mem hm.1, fun k h4 h5 => by
    rw [IsMin.one ⟨h4, h5⟩ hm]
    exact q _ H (.refl H) (.int _)⟩
theorem ev_maxL {x : Rs} {ns : List Int} {m : Int} (h : Ev K B O L ta x) (hl : Ls K B O x (ns.map .int)) (hm : IsMax ns m) : Ev K B O L (tCB (rMax K) (tCons ta tNil)) (.dat (.int m)) :=
  ev_cbL h hl fun σ H s a vs h2 h3 Q q => ⟨a, ns, rfl, by rw [← h3.ints]; exact h2, List.length_pos_of_mem hm.1, fun k h4 h5 => by
    rw [IsMax.one ⟨h4, h5⟩ hm]
    exact q _ H (.refl H) (.int _)⟩
/-! x in xs: flat things -/
def flatD : Dt → Bool
  | .non => true
  | .bl _ => true
  | .int _ => true
  | .str _ => true
  | _ => false
theorem TpA.intsInv {H : Hp} {vs : List V} {ns : List Int} (h : TpA K H vs (ns.map .int)) : vs = ns.map V.int := h.ints ns
theorem flat_ints (ns : List Int) : (ns.map V.int).all flatV = true := by
  rw [List.all_eq_true]
  intro x hx
  obtain ⟨n, _, rfl⟩ := List.mem_map.mp hx
  rfl
theorem inV_ints (i : Int) (ns : List Int) : inV (.int i) (ns.map V.int) = decide (i ∈ ns) := by
  unfold inV
  induction ns with
  | nil => rfl
  | cons n ns ih =>
    rw [List.map_cons, List.any_cons, ih]
    show ((n == i) || decide (i ∈ ns)) = decide (i ∈ n :: ns)
    by_cases h : n = i
    · subst h
      simp
    · have h' : ¬ i = n := fun z => h z.symm
      simp [h, h']
theorem ev_inT {i : Int} {ns : List Int} (ha : Ev K B O L ta (.dat (.int i))) (hb : Ev K B O L tb (.dat (.tup (ns.map .int)))) : Ev K B O L (tOp (rIn K false) ta tb) (.dat (.bl (decide (i ∈ ns)))) :=
  ev_op ha hb fun σ H s x y hx hy Q q => by
    cases hx
    cases hy with
    | tup h1 h2 =>
      rw [h2.intsInv] at h1
      refine ⟨_, _, rfl, .inr h1, rfl, flat_ints ns, ?_⟩
      rw [if_neg (by decide), inV_ints]
      exact q _ H (.refl H) (.bl _)
theorem ev_notInT {i : Int} {ns : List Int} (ha : Ev K B O L ta (.dat (.int i))) (hb : Ev K B O L tb (.dat (.tup (ns.map .int)))) : Ev K B O L (tOp (rIn K true) ta tb) (.dat (.bl (!decide (i ∈ ns)))) :=
  ev_op ha hb fun σ H s x y hx hy Q q => by
    cases hx
    cases hy with
    | tup h1 h2 =>
      rw [h2.intsInv] at h1
      refine ⟨_, _, rfl, .inr h1, rfl, flat_ints ns, ?_⟩
      rw [if_pos rfl, inV_ints]
      exact q _ H (.refl H) (.bl _)
/-! == of data -/
mutual
def toPy : Dt → PyData
  | .non => .none
  | .bl b => .bool b
  | .int i => .int i
  | .str x => .str x
  | .tup ds => .tuple (toPyA ds)
  | .adr _ => .none
def toPyA : List Dt → List PyData
  | [] => []
  | d :: ds => toPy d :: toPyA ds
end
mutual
def noA : Dt → Bool
  | .adr _ => false
  | .tup ds => noAA ds
  | _ => true
def noAA : List Dt → Bool
  | [] => true
  | d :: ds => noA d && noAA ds
end
mutual
theorem Tp.dp {H : Hp} : ∀ {v : V} {d : Dt}, Tp K H v d → noA d = true → Dp K H v (toPy d)
  | _, _, .non, _ => .non
  | _, _, .bl b, _ => .bl b
  | _, _, .int i, _ => .int i
  | _, _, .str x, _ => .str x
  | _, _, .adr _, e => by cases e
  | _, _, .tup h t, e => .tup h (TpA.dp t e)
theorem TpA.dp {H : Hp} : ∀ {v : List V} {d : List Dt}, TpA K H v d → noAA d = true → DpAll K H v (toPyA d)
  | _, _, .nil, _ => .nil
  | _, _, .cons h t, e => by
    have e' := Bool.and_eq_true_iff.mp e
    exact .cons (h.dp e'.1) (TpA.dp t e'.2)
end
/-- == of two data -/
def eqD (d e : Dt) : Bool := PyData.eqv (toPy d) (toPy e)
def okD (d : Dt) : Bool := noA d && SeqAt.shaped (toPy d)
def eqL (ds es : List Dt) : Bool := PyData.eqv (.list (toPyA ds)) (.list (toPyA es))
def okL (ds : List Dt) : Bool := noAA ds && SeqAt.shaped (.list (toPyA ds))
theorem ev_eqD {d e : Dt} (ha : Ev K B O L ta (.dat d)) (hb : Ev K B O L tb (.dat e)) (h1 : okD d = true) (h2 : okD e = true) : Ev K B O L (tOp (rEqD K) ta tb) (.dat (.bl (eqD d e))) :=
  ev_op ha hb fun σ H s x y hx hy Q q => by
    have a1 := Bool.and_eq_true_iff.mp h1
    have a2 := Bool.and_eq_true_iff.mp h2
    exact ⟨_, _, hx.dp a1.1, hy.dp a2.1, a1.2, a2.2, q _ H (.refl H) (.bl _)⟩
theorem ev_neD {d e : Dt} (ha : Ev K B O L ta (.dat d)) (hb : Ev K B O L tb (.dat e)) (h1 : okD d = true) (h2 : okD e = true) : Ev K B O L (tOp (rNeD K) ta tb) (.dat (.bl (!eqD d e))) :=
  ev_op ha hb fun σ H s x y hx hy Q q => by
    have a1 := Bool.and_eq_true_iff.mp h1
    have a2 := Bool.and_eq_true_iff.mp h2
    exact ⟨_, _, hx.dp a1.1, hy.dp a2.1, a1.2, a2.2, q _ H (.refl H) (.bl _)⟩
theorem LsR.dp {H : Hp} {v : V} {ds : List Dt} (h : LsR K H v ds) (e : noAA ds = true) : Dp K H v (.list (toPyA ds)) := by
  obtain ⟨a, vs, rfl, h1, h2⟩ := h
  exact .lst h1 (h2.dp e)
theorem ev_eqL {x y : Rs} {ds es : List Dt} (ha : Ev K B O L ta x) (hx : Ls K B O x ds) (hb : Ev K B O L tb y) (hy : Ls K B O y es) (h1 : okL ds = true) (h2 : okL es = true) : Ev K B O L (tOp (rEqD K) ta tb) (.dat (.bl (eqL ds es))) := fun σ H s Q q =>
  ha σ H s _ fun v H1 e1 r1 => hb σ H1 (s.same e1) _ fun u H2 e2 r2 => by
    have a1 := Bool.and_eq_true_iff.mp h1
    have a2 := Bool.and_eq_true_iff.mp h2
    exact ⟨_, _, ((hx L σ H H1 v s e1 r1).same e2).dp a1.1, (hy L σ H1 H2 u (s.same e1) e2 r2).dp a2.1, a1.2, a2.2, q _ H2 (e1.trans e2) (.bl _)⟩
theorem ev_neL {x y : Rs} {ds es : List Dt} (ha : Ev K B O L ta x) (hx : Ls K B O x ds) (hb : Ev K B O L tb y) (hy : Ls K B O y es) (h1 : okL ds = true) (h2 : okL es = true) : Ev K B O L (tOp (rNeD K) ta tb) (.dat (.bl (!eqL ds es))) := fun σ H s Q q =>
  ha σ H s _ fun v H1 e1 r1 => hb σ H1 (s.same e1) _ fun u H2 e2 r2 => by
    have a1 := Bool.and_eq_true_iff.mp h1
    have a2 := Bool.and_eq_true_iff.mp h2
    exact ⟨_, _, ((hx L σ H H1 v s e1 r1).same e2).dp a1.1, (hy L σ H1 H2 u (s.same e1) e2 r2).dp a2.1, a1.2, a2.2, q _ H2 (e1.trans e2) (.bl _)⟩
theorem toPyA_map (f : Dt → PyData) (h : ∀ d, f d = toPy d) : ∀ ds : List Dt, toPyA ds = ds.map f
  | [] => rfl
  | d :: ds => by rw [toPyA, toPyA_map f h ds, List.map_cons, h]
theorem eqA_ints : ∀ ns ms : List Int, PyData.eqvAll (toPyA (ns.map .int)) (toPyA (ms.map .int)) = decide (ns = ms)
  | [], [] => by simp [toPyA, PyData.eqvAll]
  | [], m :: ms => by simp [toPyA, PyData.eqvAll]
  | n :: ns, [] => by simp [toPyA, PyData.eqvAll]
  | n :: ns, m :: ms => by
    rw [List.map_cons, List.map_cons, toPyA, toPyA, PyData.eqvAll, eqA_ints ns ms, toPy, toPy, PyData.eqv]
    by_cases h : n = m
    · subst h
      by_cases h2 : ns = ms
      · subst h2
        simp
      · simp [h2]
    · simp [h]
theorem eqD_ints (ns ms : List Int) : eqD (.tup (ns.map .int)) (.tup (ms.map .int)) = decide (ns = ms) := by
  unfold eqD
  rw [toPy, toPy, PyData.eqv]
  exact eqA_ints ns ms
end
end GT
namespace GT
open PySem PySem.Spec PyProof.Rows L2
/-! ### defs of the text by name -/
structure Cal (P : Program) (w : World) (K : Fg) (mg : Str → Option Value) (base : Heap) (CX : CXT) (k : Nat) (x : Str) (ps : List Str) (sp : Sp) : Prop where
  ex : ∃ (f : Addr) (fd : FuncData), FnOk P w K mg base CX k f fd ps sp ∧ mg x = some (.ref f) ∧ PySem.W.keepIn K (.ref f) = true ∧ Binds K fd ps []
/-- where a def of the text stands -/
def At (K : Fg) (mg : Str → Option Value) (x : Str) (st : Stmt) (ps : List Str) : Prop := ∃ (f : Addr) (fd : FuncData), Fun K x x st f fd ∧ mg x = some (.ref f) ∧ Binds K fd ps []
section
variable {X : Cx} {CX : CXT} {k j : Nat} {ps : List Str} {sp : Sp} {E : XK} {x m : Str} {p pos apos : Pos} {e o : Expr} {es : List Expr} {t : TA} {ta : TE} {C : Addr}
theorem Cal.pe (F : Cal X.prog X.w X.K X.mg X.base CX k x ps sp) (hr : Room j X.A) (hx : Passes CX X E) (ha : PA X (e :: es) t) (hk : k ≤ j := by decide) (hg : Gl X x := by rfl) (hdb : (x == ("__debug__" : Str)) = false := by decide)
    (he : starEach (e :: es) X.env = (false, eval e X.env) :: starEach es X.env := by rfl) (hpl : (backTo pos (starEach es X.env)).any (·.1) = false := by rfl) : PE X (.Call (.Name x p) (e :: es) [] pos) (tCall sp [] E t) := by
  obtain ⟨f, fd, F, g, kp, b⟩ := F.ex
  exact pe_call F (hr.mono hk) hg g kp b .nil hx ha hdb he hpl
/-- a class's method -/
structure CalM (P : Program) (w : World) (K : Fg) (mg : Str → Option Value) (base : Heap) (CX : CXT) (k : Nat) (C : Addr) (m : Str) (ps : List Str) (sp : Sp) : Prop where
  cls : Cls K C
  ex : ∃ (f : Addr) (fd : FuncData), FnOk P w K mg base CX k f fd ps sp ∧ Meth K C m f ∧ Binds K fd ps []
def AtM (K : Fg) (C : Addr) (m qual : Str) (st : Stmt) (ps : List Str) : Prop := Cls K C ∧ ∃ (f : Addr) (fd : FuncData), Fun K m qual st f fd ∧ Meth K C m f ∧ Binds K fd ps []
theorem CalM.pe {pl : Sem Bool} (F : CalM X.prog X.w X.K X.mg X.base CX k C m ps sp) (he : PE X o ta) (hr : Room j X.A) (hx : Passes CX X E) (ha : PA X (e :: es) t) (hk : k ≤ j := by decide)
    (hst : starEach (e :: es) X.env = (false, eval e X.env) :: starEach es X.env := by rfl) (hpl : (backTo pos (starEach es X.env)).any (·.1) = false := by rfl)
    (ht : eval (.Call (.Attribute o m apos) (e :: es) [] pos) X.env = (do
      let ov ← eval o X.env
      standAt apos.atName
      let (f, first) ← holding [ov] (getMethod ov m pl)
      callWith pos f first (backTo pos (starEach (e :: es) X.env)) (backToKw pos (keywordEach [] X.env))) := by rfl) : PE X (.Call (.Attribute o m apos) (e :: es) [] pos) (tMeth C m sp [] E ta t) := by
  obtain ⟨f, fd, G, hm, b⟩ := F.ex
  exact pe_meth he F.cls hm G (hr.mono hk) b .nil hx ha hst hpl ht
theorem CalM.pe0 {pl : Sem Bool} (F : CalM X.prog X.w X.K X.mg X.base CX k C m ps sp) (he : PE X o ta) (hr : Room j X.A) (hx : Passes CX X E) (hk : k ≤ j := by decide)
    (ht : eval (.Call (.Attribute o m apos) [] [] pos) X.env = (do
      let ov ← eval o X.env
      standAt apos.atName
      let (f, first) ← holding [ov] (getMethod ov m pl)
      callWith pos f first (backTo pos (starEach [] X.env)) (backToKw pos (keywordEach [] X.env))) := by rfl) : PE X (.Call (.Attribute o m apos) [] [] pos) (tMeth C m sp [] E ta tNil) := by
  obtain ⟨f, fd, G, hm, b⟩ := F.ex
  exact pe_meth0 he F.cls hm G (hr.mono hk) b .nil hx ht
end
section
variable {P : Program} {w : World} {K : Fg} {mg : Str → Option Value} {base : Heap}
theorem cal_ok {x : Str} {st : Stmt} {N ps : List Str} {k : Nat} {α : Type} {as : α → List As} {pre : α → Prop} {res : α → Rs} (T : At K mg x st ps) (S : FnScope N ps (defScope st)) (len : ∀ x, (as x).length = ps.length)
    (hbody : ∀ (f : Addr) (cdv : Value) (A : Around) (outer : List Env) (s : Shared) (B : Hp) (vs : List V) (R : VK) (E : XK) (y : α), Room k (A.deeper (envOfC x (defScope st) s.heap.objs.size f cdv)) → pre y → AsA K B vs (as y) → Rt K B R (res y) →
      ∃ t, PSs (cxOf CX0 P w K mg base N x (defScope st) f cdv A outer s B E).nox (defBody st) t ∧ t { nx := fun _ H' => R .non H', rt := R } (L2.start N vs) B) : Cal P w K mg base CX0 (k + 1) x ps (SpF K as pre res) := by
  obtain ⟨f, fd, F, g, b⟩ := T
  exact ⟨f, fd, fun_ok F S len (hbody f), g, F.kp, b⟩
end
/-- a class's __init__ -/
def Mi (K : Fg) (C : Addr) (qual : Str) (st : Stmt) (ps : List Str) : Prop := ∃ (f : Addr) (fd : FuncData), Fun K "__init__" qual st f fd ∧ Mk K C f ∧ Binds K fd ps []
/-- an own exception class -/
structure ExC (K : Fg) (mg : Str → Option Value) (x : Str) (C : Addr) : Prop where
  g : mg x = some (.ref C)
  x : PySem.W.excIn K C [.type "ValueError", .type "Exception", .type "BaseException", .type "object"] "ValueError.__new__" = true
  k : PySem.W.keepIn K (.ref C) = true
  b : PySem.W.subIn K (.ref C) (.type "BaseException") = some true
  t : PySem.W.typeIn K (.ref C) = some (.type "type")
  i : PySem.W.isClsIn K C = true
theorem pe_globI {X : Cx} {x : Str} {i : Int} {pos : Pos} (hg : Gl X x) (h : ∃ t, X.mg x = some (.int i t)) (hd : (x == ("__debug__" : Str)) = false := by decide) : PE X (.Name x pos) (tC (.int i)) := by
  obtain ⟨t, h⟩ := h
  exact pe_glob hg h ⟨t, rfl⟩ hd
theorem pe_globS {X : Cx} {x z : Str} {pos : Pos} (hg : Gl X x) (h : ∃ t, X.mg x = some (.str z t)) (hd : (x == ("__debug__" : Str)) = false := by decide) : PE X (.Name x pos) (tC (.str z)) := by
  obtain ⟨t, h⟩ := h
  exact pe_glob hg h ⟨t, rfl⟩ hd
/-- a law's promise -/
def SpLaw (K : Fg) : Sp := SpF K (fun ns : List Int => [.lst (ns.map .int)]) (fun ns => ns.length ≤ 63) (fun _ => .dat (.bl true))
theorem spLaw_of (K : Fg) (H : Hp) (a : Addr) (ns : List Int) (h : ns.length ≤ 63) (hS : SqL K H a (ns.map V.int)) : SpLaw K [.ref a] H (fun v _ => v = .bl true) fun _ _ _ => False :=
  ⟨ns, h, .cons ⟨a, ns.map V.int, rfl, hS, TpA.of_ints ns⟩ .nil, fun v H' e r => by
    cases r
    rfl⟩
theorem tup_of {K : Fg} {a : Addr} {o : Obj} {its : Array Value} {n : Nat} {xs : List V} {ds : List Dt} (l : K.lookup a = some o) (c : o.cls = .type "tuple") (d : o.data = .seq its n) (z : its.size ≤ sizeLine) (r : Vals xs its.toList) (t : ∀ H, TpA K H xs ds) : ∀ H, Tp K H (.ref a) (.tup ds) :=
  fun H => .tup (.inr ⟨o, its, n, l, c, d, z, r⟩) (t H)
theorem tup_two {K : Fg} {a : Addr} {od : Option Addr} {sl : Array (Option Value)} {n : Nat} {i j : Int} {t u : Tok} (l : K.lookup a = some ⟨.type "tuple", od, .seq #[.int i t, .int j u] n, sl⟩) : ∀ H, Tp K H (.ref a) (.tup [.int i, .int j]) :=
  tup_of (xs := [.int i, .int j]) l rfl rfl (by show 2 ≤ sizeLine; rw [sizeLine_eq]; omega) (.cons ⟨t, rfl⟩ (.cons ⟨u, rfl⟩ .nil)) fun H => .cons (.int i) (.cons (.int j) .nil)
end GT
namespace GT
open PySem PySem.Spec PyProof.Rows L2
/-- a statement, then the rest, a word between them -/
def tCut (t u : TS) : TS := fun D σ H => ∃ Mid : L2.St → Hp → Prop, t { D with nx := Mid } σ H ∧ ∀ σ' H', Mid σ' H' → u D σ' H'
theorem pss_cut {X : Cx} {st : Stmt} {rest : List Stmt} {t u : TS} (h1 : PS X st t) (h2 : PSs X rest u) : PSs X (st :: rest) (tCut t u) := by
  refine ⟨fun pins s σ H D I h => ?_⟩
  obtain ⟨Mid, h, k⟩ := h
  refine wpAny_execs_cons (thn (h1.run pins s σ H _ I h) fun f s1 q => ?_)
  cases f with
  | next =>
    obtain ⟨σ', H', I', q'⟩ := q
    exact h2.run pins s1 σ' H' D I' (k _ _ q')
  | brk => exact q
  | cont => exact q
  | ret v => exact q
section
variable {K : Fg} {B : Hp} {O : Own} {L : Sl} {te ta tb tx : TE} {t : TT} {D : Ends} {tu tw : TS} {g : TG}
theorem s_cutW (W : L2.St → Hp → Prop) (h : Nx K B O L (tu { D with nx := W })) (k : ∀ σ H, W σ H → tw D σ H) : Nx K B O L (tCut tu tw D) := fun σ H s => ⟨W, h σ H s, k⟩
theorem s_cut (O' : Own) (L' : Sl) (h : Nx K B O L (tu { D with nx := fun σ H => Sat K B O' L' σ H })) (k : Nx K B O' L' (tw D)) : Nx K B O L (tCut tu tw D) := s_cutW _ h k
theorem s_ok : Nx K B O L fun σ H => Sat K B O L σ H := fun σ H s => s
theorem s_okL {L' : Sl} (h : L = L') : Nx K B O L fun σ H => Sat K B O L' σ H := h ▸ s_ok
theorem s_okO {O' : Own} {L' : Sl} (h : O = O') (h' : L = L') : Nx K B O L fun σ H => Sat K B O' L' σ H := h' ▸ h ▸ s_ok
/-- forgetting slots, pointwise -/
inductive LeL : Sl → Sl → Prop
  | nil : LeL [] []
  | none {d : Option Dt} {l l' : Sl} : LeL l l' → LeL (none :: l) (d :: l')
  | same {d : Option Dt} {l l' : Sl} : LeL l l' → LeL (d :: l) (d :: l')
theorem LeL.len : ∀ {l l' : Sl}, LeL l l' → l.length = l'.length
  | _, _, .nil => rfl
  | _, _, .none h => congrArg (· + 1) (LeL.len h)
  | _, _, .same h => congrArg (· + 1) (LeL.len h)
theorem LeL.get : ∀ {l l' : Sl}, LeL l l' → ∀ (i : Nat) (d : Dt), l[i]? = some (some d) → l'[i]? = some (some d)
  | _, _, .nil, _, _, e => e
  | _, _, .none h, 0, _, e => by simp at e
  | _, _, .none h, i + 1, d, e => by
    have := LeL.get h i d (by simpa using e)
    simpa using this
  | _, _, .same h, 0, _, e => by simpa using e
  | _, _, .same h, i + 1, d, e => by
    have := LeL.get h i d (by simpa using e)
    simpa using this
theorem s_okW {L' : Sl} (h : LeL L' L) : Nx K B O L fun σ H => Sat K B O L' σ H := fun σ H s => s.weak h.len h.get
theorem s_weak {L' : Sl} {Q : L2.St → Hp → Prop} (h : LeL L' L) (k : Nx K B O L' Q) : Nx K B O L Q := nx_weak k h.len h.get
end
end GT
/-! ### GT2: slices, lists put together, a field, what is kept -/
namespace GT
open PySem PySem.Spec PyProof.Rows L2
section
variable {K : Fg} {B : Hp} {O : Own} {L : Sl} {te ta tb tx : TE} {t u : TT}
theorem Ev.isL {ds es : List Dt} (h : Ev K B O L te (.new (.lst ds))) (e : ds = es) : Ev K B O L te (.new (.lst es)) := e ▸ h
/-- a part of a slice -/
def EvO (K : Fg) (B : Hp) (O : Own) (L : Sl) (tl : TO) (o : Option Int) : Prop := ∀ σ H, Sat K B O L σ H → ∀ Q : Option Int → Hp → Prop, (∀ H2, Same H H2 → Q o H2) → tl σ H Q
theorem eo_none : EvO K B O L tNoPart none := fun σ H s Q q => q H (.refl H)
theorem eo_some {i : Int} (h : Ev K B O L te (.dat (.int i))) : EvO K B O L (tPart te) (some i) := fun σ H s Q q => h σ H s _ fun v H1 e1 r1 => by
  cases r1
  exact ⟨i, rfl, q H1 e1⟩
def cutD (ds : List Dt) (lo hi : Option Int) : List Dt := (ds.drop (HT.sIx ds.length 0 lo)).take (HT.sIx ds.length ds.length hi - HT.sIx ds.length 0 lo)
theorem TpA.cut {H : Hp} {vs : List V} {ds : List Dt} (h : TpA K H vs ds) (lo hi : Option Int) : TpA K H (cutV vs lo hi) (cutD ds lo hi) := by
  unfold cutV cutD
  rw [h.length]
  exact (h.drop _).take _
theorem ev_slL {tl th : TO} {r : Rs} {ds : List Dt} {lo hi : Option Int} (ha : Ev K B O L ta r) (hl : Ls K B O r ds) (h1 : EvO K B O L tl lo) (h2 : EvO K B O L th hi) : Ev K B O L (tSl (rSlL K) ta tl th) (.new (.lst (cutD ds lo hi))) := fun σ H s Q q =>
  ha σ H s _ fun x H1 e1 r1 => h1 σ H1 (s.same e1) _ fun H2 e2 => h2 σ H2 ((s.same e1).same e2) _ fun H3 e3 => by
    obtain ⟨a, vs, rfl, h4, h5⟩ := ((hl L σ H H1 x s e1 r1).same e2).same e3
    exact ⟨a, vs, rfl, h4, fun p hp => q _ _ (((e1.trans e2).trans e3).trans (Same.new hp)) ⟨p, rfl, ((e1.trans e2).trans e3).free hp, _, upd_same, (h5.cut lo hi).same (Same.new hp)⟩⟩
theorem ev_slT {tl th : TO} {ds : List Dt} {lo hi : Option Int} (ha : Ev K B O L ta (.dat (.tup ds))) (h1 : EvO K B O L tl lo) (h2 : EvO K B O L th hi) : Ev K B O L (tSl (rSlA K) ta tl th) (.dat (.tup (cutD ds lo hi))) := fun σ H s Q q =>
  ha σ H s _ fun x H1 e1 r1 => h1 σ H1 (s.same e1) _ fun H2 e2 => h2 σ H2 ((s.same e1).same e2) _ fun H3 e3 => by
    have r3 : Tp K H3 x (.tup ds) := Tp.same (e2.trans e3) r1
    cases r3 with
    | tup ht hd =>
      rename_i a xs
      refine ⟨a, xs, rfl, ht, fun hw => q _ H3 ((e1.trans e2).trans e3) (.tup ht ?_), fun _ p hp => q _ _ (((e1.trans e2).trans e3).trans (Same.new hp)) (.tup (.of upd_same) ((hd.cut lo hi).same (Same.new hp)))⟩
      have e : cutD ds lo hi = ds := by
        unfold cutD
        rw [← hd.length, hw.1, hw.2, List.drop_zero, Nat.sub_zero, hd.length, List.take_length]
      rw [e]
      exact hd
/-- prefixes, rests -/
theorem cutD_take {ds : List Dt} {k : Nat} (h : k ≤ ds.length) : cutD ds none (some (k : Int)) = ds.take k := by
  unfold cutD
  rw [HT.sIx_none, HT.sIx_nat, List.drop_zero, Nat.sub_zero, Nat.min_eq_left h]
theorem cutD_drop {ds : List Dt} {k : Nat} (h : k ≤ ds.length) : cutD ds (some (k : Int)) none = ds.drop k := by
  unfold cutD
  rw [HT.sIx_none, HT.sIx_nat, Nat.min_eq_left h]
  exact List.take_of_length_le (by rw [List.length_drop]; omega)
theorem cutD_takeG {ds : List Dt} {k : Int} (h : 0 ≤ k) : cutD ds none (some k) = ds.take k.toNat := by
  obtain ⟨n, rfl⟩ := Int.eq_ofNat_of_zero_le h
  unfold cutD
  rw [HT.sIx_none]
  show (ds.drop 0).take (HT.sIx ds.length ds.length (some (n : Int)) - 0) = _
  rw [HT.sIx_nat, List.drop_zero, Nat.sub_zero, Int.toNat_natCast]
  rcases Nat.le_total n ds.length with h | h
  · rw [Nat.min_eq_left h]
  · rw [Nat.min_eq_right h, List.take_of_length_le (Nat.le_refl _), List.take_of_length_le h]
theorem cutD_dropG {ds : List Dt} {k : Int} (h : 0 ≤ k) : cutD ds (some k) none = ds.drop k.toNat := by
  obtain ⟨n, rfl⟩ := Int.eq_ofNat_of_zero_le h
  unfold cutD
  rw [HT.sIx_none]
  show (ds.drop (HT.sIx ds.length 0 (some (n : Int)))).take _ = _
  rw [HT.sIx_nat, Int.toNat_natCast]
  rw [List.take_of_length_le (by rw [List.length_drop]; omega)]
  rcases Nat.le_total n ds.length with h | h
  · rw [Nat.min_eq_left h]
  · rw [Nat.min_eq_right h, List.drop_of_length_le (Nat.le_refl _), List.drop_of_length_le h]
/-- v is a list of ds that is tracked and not locked -/
def LmR (K : Fg) (H : Hp) (v : V) (ds : List Dt) : Prop := ∃ a vs, v = .ref a ∧ H a = some (.lst vs) ∧ TpA K H vs ds
theorem LmR.same {H H' : Hp} {v : V} {ds : List Dt} (e : Same H H') : LmR K H v ds → LmR K H' v ds := fun ⟨a, vs, h1, h2, h3⟩ => ⟨a, vs, h1, e _ _ h2, h3.same e⟩
theorem LmR.ls {H : Hp} {v : V} {ds : List Dt} : LmR K H v ds → LsR K H v ds := fun ⟨a, vs, h1, h2, h3⟩ => ⟨a, vs, h1, .of h2, h3⟩
def Lm (K : Fg) (B : Hp) (O : Own) (r : Rs) (ds : List Dt) : Prop := ∀ L σ H H2 v, Sat K B O L σ H → Same H H2 → RsR K H H2 v r → LmR K H2 v ds
theorem Lm.new {ds : List Dt} : Lm K B O (.new (.lst ds)) ds := fun _ _ _ _ _ _ _ ⟨p, h1, _, vs, h3, h4⟩ => ⟨p, vs, h1, h3, h4⟩
theorem Lm.own {j : Nat} {a : Addr} {ds : List Dt} (h : O[j]? = some (a, .lst ds)) : Lm K B O (.dat (.adr a)) ds := fun _ _ _ _ _ s e r => by
  obtain ⟨vs, h1, h2⟩ := ((s.same e).at h).2
  cases r
  exact ⟨a, vs, rfl, h1, h2⟩
theorem Lm.base {a : Addr} {ds : List Dt} (h : LmR K B (.ref a) ds) : Lm K B O (.dat (.adr a)) ds := fun _ _ _ _ _ s e r => by
  cases r
  exact (h.same s.ex).same e
theorem Lm.ls {r : Rs} {ds : List Dt} (h : Lm K B O r ds) : Ls K B O r ds := fun L σ H H2 v s e x => (h L σ H H2 v s e x).ls
/-- xs + ys -/
theorem ev_cat {x y : Rs} {ds es : List Dt} (ha : Ev K B O L ta x) (hx : Lm K B O x ds) (hb : Ev K B O L tb y) (hy : Lm K B O y es) (hz : ds.length + es.length ≤ 100000) : Ev K B O L (tOp rCat ta tb) (.new (.lst (ds ++ es))) := fun σ H s Q q =>
  ha σ H s _ fun v H1 e1 r1 => hb σ H1 (s.same e1) _ fun u H2 e2 r2 => by
    obtain ⟨a, vs, rfl, h1, h2⟩ := (hx L σ H H1 v s e1 r1).same e2
    obtain ⟨b, ws, rfl, h3, h4⟩ := hy L σ H1 H2 u (s.same e1) e2 r2
    exact ⟨a, b, vs, ws, rfl, rfl, h1, h3, by rw [h2.length, h4.length, sizeLine_eq]; omega, fun p hp => q _ _ ((e1.trans e2).trans (Same.new hp)) ⟨p, rfl, (e1.trans e2).free hp, _, upd_same, (h2.append h4).same (Same.new hp)⟩⟩
theorem TpA.rep {H : Hp} {vs : List V} {ds : List Dt} (h : TpA K H vs ds) : ∀ k : Nat, TpA K H (List.replicate k vs).flatten (List.replicate k ds).flatten
  | 0 => .nil
  | k + 1 => by
    rw [List.replicate_succ, List.replicate_succ, List.flatten_cons, List.flatten_cons]
    exact h.append (TpA.rep h k)
/-- xs * k -/
theorem ev_rep {x : Rs} {ds : List Dt} {k : Int} (ha : Ev K B O L ta x) (hx : Lm K B O x ds) (hb : Ev K B O L tb (.dat (.int k))) (h1 : -1000 ≤ k) (h2 : k ≤ 1000) (hz : ds.length ≤ 1000) : Ev K B O L (tOp rRep ta tb) (.new (.lst (List.replicate k.toNat ds).flatten)) := fun σ H s Q q =>
  ha σ H s _ fun v H1 e1 r1 => hb σ H1 (s.same e1) _ fun u H2 e2 r2 => by
    obtain ⟨a, vs, rfl, h3, h4⟩ := (hx L σ H H1 v s e1 r1).same e2
    cases r2
    have hk : k.toNat ≤ 1000 := by omega
    have hm : vs.length * k.toNat ≤ 1000 * 1000 := Nat.mul_le_mul (by rw [h4.length]; exact hz) hk
    exact ⟨a, k, vs, rfl, rfl, h3, by omega, by omega, by rw [sizeLine_eq]; omega, fun p hp => q _ _ ((e1.trans e2).trans (Same.new hp)) ⟨p, rfl, (e1.trans e2).free hp, _, upd_same, (h4.rep _).same (Same.new hp)⟩⟩
theorem rep_one {α : Type} (d : α) : ∀ k : Nat, (List.replicate k [d]).flatten = List.replicate k d
  | 0 => rfl
  | k + 1 => by
    rw [List.replicate_succ, List.flatten_cons, rep_one d k]
    rfl
theorem atI_nat' {α : Type} {enc : α → Dt} {xs : List α} {k : Nat} {y : α} (h : xs[k]? = some y) : atI (xs.map enc) (k : Int) = some (enc y) := by
  unfold atI
  have hk : k < xs.length := (List.getElem?_eq_some_iff.mp h).1
  rw [ixN_nat (by rw [List.length_map]; exact hk)]
  show (xs.map enc)[k]? = _
  rw [List.getElem?_map, h]
  rfl
end
/-! ### isinstance of a tracked tuple: any; None tests -/
section
variable {K : Fg} {B : Hp} {O : Own} {L : Sl} {te ta tb tx : TE} {t u : TT}
def isNonD : Dt → Bool
  | .non => true
  | _ => false
theorem Tp.isNon {H : Hp} {x : V} {d : Dt} (h : Tp K H x d) : decide (x = V.non) = isNonD d := by
  cases h <;> simp [isNonD]
theorem ev_isN {d : Dt} (ha : Ev K B O L ta (.dat d)) : Ev K B O L (tOp (fun x y H Q => y = V.non ∧ Q (.bl (decide (x = V.non))) H) ta (tC .non)) (.dat (.bl (isNonD d))) := fun σ H s Q q =>
  ha σ H s _ fun x H1 e1 r1 => by
    have r1' : Tp K H1 x d := r1
    exact ⟨rfl, r1'.isNon ▸ q _ H1 e1 (.bl _)⟩
theorem ev_notN {d : Dt} (ha : Ev K B O L ta (.dat d)) : Ev K B O L (tOp (fun x y H Q => y = V.non ∧ Q (.bl (!decide (x = V.non))) H) ta (tC .non)) (.dat (.bl (!isNonD d))) := fun σ H s Q q =>
  ha σ H s _ fun x H1 e1 r1 => by
    have r1' : Tp K H1 x d := r1
    exact ⟨rfl, r1'.isNon ▸ q _ H1 e1 (.bl _)⟩
end
end GT
namespace GT
open PySem PySem.Spec PyProof.Rows L2
theorem s_okO' {K : Fg} {B : Hp} {O O' : Own} {L L' : Sl} (h : O = O') (h' : LeL L' L) : Nx K B O L fun σ H => Sat K B O' L' σ H := h ▸ s_okW h'
end GT
namespace GT
open PySem PySem.Spec PyProof.Rows L2
section
variable {K : Fg} {B : Hp} {O : Own} {L : Sl} {te ta tb tx : TE} {t : TT} {D : Ends} {tu tw : TS} {g : TG}
/-- for over a list, with a plain invariant beside the frame -/
theorem s_forI {α : Type} {enc : α → Dt} {ys : List α} {a : Addr} {tl : TE} (h : Ev K B O L tl (.dat (.adr a))) (O' : List α → Own) (L1 : List α → α → Sl) (L0 : List α → Sl) (I : List α → Prop) (hl : ∀ pre, Ls K B (O' pre) (.dat (.adr a)) (ys.map enc))
    (hi : I []) (h0 : Nx K B O L fun σ H => Sat K B (O' []) (L0 []) σ H) (hg : ∀ pre y, Tg K B (O' pre) (L0 pre) g (enc y) (L1 pre y))
    (hs : ∀ pre y post, ys = pre ++ y :: post → I pre → Nx K B (O' pre) (L1 pre y) (tu { D with nx := fun σ H => I (pre ++ [y]) ∧ Sat K B (O' (pre ++ [y])) (L0 (pre ++ [y])) σ H, ct := fun σ H => I (pre ++ [y]) ∧ Sat K B (O' (pre ++ [y])) (L0 (pre ++ [y])) σ H, bk := D.nx }))
    (hd : I ys → Nx K B (O' ys) (L0 ys) D.nx) : Nx K B O L (tFor (iList K tl) g tu D) :=
  s_forW (enc := enc) h (fun pre σ H => I pre ∧ Sat K B (O' pre) (L0 pre) σ H) (fun pre σ H w => hl pre (L0 pre) σ H H _ w.2 (.refl H) (.adr a)) (fun σ H s => ⟨hi, h0 σ H s⟩)
    (fun pre y post e σ H v w r => hg pre y σ H v w.2 r _ fun σ' s' => hs pre y post e w.1 σ' H s') fun σ H w => hd w.1 σ H w.2
theorem s_okI {I : Prop} {O' : Own} {L' : Sl} (hi : I) (h : Nx K B O L fun σ H => Sat K B O' L' σ H) : Nx K B O L fun σ H => I ∧ Sat K B O' L' σ H := fun σ H s => ⟨hi, h σ H s⟩
/-- for over range(n), with a plain invariant beside the frame -/
theorem s_forRI {n : Nat} {ta : TA} {j : Nat} (h : EvD K B O L ta [.int n]) (hn : n ≤ 100000) (O' : Nat → Own) (L0 : Nat → Sl) (I : Nat → Prop) (hi : I 0) (h0 : Nx K B O L fun σ H => Sat K B (O' 0) (L0 0) σ H)
    (hs : ∀ i, i < n → I i → Nx K B (O' i) ((L0 i).set j (some (.int i))) (tu { D with nx := fun σ H => I (i + 1) ∧ Sat K B (O' (i + 1)) (L0 (i + 1)) σ H, ct := fun σ H => I (i + 1) ∧ Sat K B (O' (i + 1)) (L0 (i + 1)) σ H, bk := D.nx }))
    (hd : I n → Nx K B (O' n) (L0 n) D.nx) : Nx K B O L (tFor (iRng1 ta) (gName j) tu D) :=
  s_forR h hn (fun i σ H => I i ∧ Sat K B (O' i) (L0 i) σ H) (fun σ H s => ⟨hi, h0 σ H s⟩) (fun i hi' σ H w => hs i hi' w.1 _ H (w.2.set (.int _))) fun σ H w => hd w.1 σ H w.2
end
end GT
/-! ### fractions: what the programs' loops reckon is core Rat -/
namespace My
open PySem PySem.Spec PyProof.Rows L2 GT
abbrev dQ (q : Rat) : Dt := .tup [.int q.num, .int q.den]
/-- a fraction of less than 2 ^ n either side -/
def Sz (n : Nat) (q : Rat) : Prop := q.num.natAbs < 2 ^ n ∧ q.den < 2 ^ n
theorem Sz.mono {n m : Nat} {q : Rat} (h : Sz n q) (hm : n ≤ m) : Sz m q :=
  ⟨Nat.lt_of_lt_of_le h.1 (Nat.pow_le_pow_right (by omega) hm), Nat.lt_of_lt_of_le h.2 (Nat.pow_le_pow_right (by omega) hm)⟩
theorem natAbs_div_le (a : Int) (g : Nat) : (a / (g : Int)).natAbs ≤ a.natAbs := by
  rcases Nat.eq_zero_or_pos g with h | h
  · subst h
    simp
  · have h1 := Int.natAbs_ediv_le_natAbs a g
    exact h1
theorem sz_mkRat {n : Int} {d k : Nat} (hn : n.natAbs < 2 ^ k) (hd : d < 2 ^ k) (h0 : d ≠ 0) : Sz k (mkRat n d) := by
  constructor
  · rw [Rat.num_mkRat]
    split
    · exact Nat.pow_pos (by omega)
    · exact Nat.lt_of_le_of_lt (natAbs_div_le _ _) hn
  · rw [Rat.den_mkRat]
    split
    · contradiction
    · exact Nat.lt_of_le_of_lt (Nat.div_le_self _ _) hd
theorem sz_add {a b : Nat} {p q : Rat} (hp : Sz a p) (hq : Sz b q) : Sz (a + b + 1) (p + q) := by
  rw [Rat.add_def']
  have e : 2 ^ (a + b + 1) = 2 ^ a * 2 ^ b + 2 ^ b * 2 ^ a := by rw [Nat.pow_succ, Nat.pow_add, Nat.mul_comm (2 ^ b)]; omega
  refine sz_mkRat ?_ ?_ (Nat.mul_ne_zero p.den_nz q.den_nz)
  · have h1 : (p.num * q.den).natAbs < 2 ^ a * 2 ^ b := by
      rw [Int.natAbs_mul, Int.natAbs_natCast]
      exact Nat.mul_lt_mul'' hp.1 hq.2
    have h2 : (q.num * p.den).natAbs < 2 ^ b * 2 ^ a := by
      rw [Int.natAbs_mul, Int.natAbs_natCast]
      exact Nat.mul_lt_mul'' hq.1 hp.2
    have h3 := Int.natAbs_add_le (p.num * q.den) (q.num * p.den)
    omega
  · have h1 : p.den * q.den < 2 ^ a * 2 ^ b := Nat.mul_lt_mul'' hp.2 hq.2
    omega
theorem sz_neg {a : Nat} {p : Rat} (hp : Sz a p) : Sz a (-p) := by
  refine ⟨?_, hp.2⟩
  rw [Rat.neg_num, Int.natAbs_neg]
  exact hp.1
theorem sz_sub {a b : Nat} {p q : Rat} (hp : Sz a p) (hq : Sz b q) : Sz (a + b + 1) (p - q) := by
  rw [Rat.sub_eq_add_neg]
  exact sz_add hp (sz_neg hq)
theorem sz_mul {a b : Nat} {p q : Rat} (hp : Sz a p) (hq : Sz b q) : Sz (a + b) (p * q) := by
  rw [Rat.mul_def']
  refine sz_mkRat ?_ ?_ (Nat.mul_ne_zero p.den_nz q.den_nz)
  · rw [Int.natAbs_mul, Nat.pow_add]
    exact Nat.mul_lt_mul'' hp.1 hq.1
  · rw [Nat.pow_add]
    exact Nat.mul_lt_mul'' hp.2 hq.2
theorem sz_inv {a : Nat} {p : Rat} (hp : Sz a p) : Sz a p⁻¹ := by
  constructor
  · rw [Rat.num_inv, Int.natAbs_mul, Int.natAbs_natCast, Int.natAbs_sign]
    split
    · simp
      exact Nat.pow_pos (by omega)
    · rw [Nat.one_mul]
      exact hp.2
  · rw [Rat.den_inv]
    split
    · have := hp.2
      have := p.den_pos
      omega
    · exact hp.1
theorem sz_div {a b : Nat} {p q : Rat} (hp : Sz a p) (hq : Sz b q) : Sz (a + b) (p / q) := by
  rw [Rat.div_def]
  exact sz_mul hp (sz_inv hq)
theorem sz_int {i : Int} {a : Nat} (h : i.natAbs < 2 ^ a) (ha : 0 < a) : Sz a (i : Rat) := by
  refine ⟨?_, ?_⟩
  · rw [Rat.num_intCast]
    exact h
  · rw [Rat.den_intCast]
    exact Nat.one_lt_two_pow (by omega)
theorem sz_zero {a : Nat} (ha : 0 < a) : Sz a 0 := ⟨Nat.pow_pos (by omega), Nat.one_lt_two_pow (by omega)⟩
theorem sz_divInt {n d : Int} {k : Nat} (hn : n.natAbs < 2 ^ k) (hd : d.natAbs < 2 ^ k) (h0 : d ≠ 0) : Sz k (Rat.divInt n d) := by
  rcases Int.natAbs_eq d with e | e
  · rw [e, Rat.divInt_ofNat]
    exact sz_mkRat hn hd (by omega)
  · rw [e, Rat.divInt_neg', Rat.divInt_ofNat]
    refine sz_mkRat ?_ hd (by omega)
    rw [Int.natAbs_neg]
    exact hn
/-- products within the model's line -/
theorem mulW {i j : Int} {a : Nat} (hi : i.natAbs < 2 ^ a) {b : Nat} (hj : j.natAbs < 2 ^ b) (h : a + b ≤ 999990) : CMulW i j :=
  wide_mul (a := a + 1) (b := b + 1) (Nat.lt_of_lt_of_le hi (Nat.pow_le_pow_right (by omega) (by omega))) (Nat.lt_of_lt_of_le hj (Nat.pow_le_pow_right (by omega) (by omega))) (by omega) (by omega) (by omega)
theorem divW {i j : Int} {b : Nat} (h : 0 < j) (hj : j.natAbs < 2 ^ b) (h9 : b < 9000) : CDivW i j :=
  wide_div (b := b + 1) h (Nat.lt_of_lt_of_le hj (Nat.pow_le_pow_right (by omega) (by omega))) (by omega) (by omega)
theorem divK {i : Int} {j : Int} (h : 0 < j) (hj : j.natAbs < 2 ^ 100) : CDivW i j := divW h hj (by omega)
/-- the fraction of a top and a bottom, by the greatest common divisor -/
theorem low_divInt (t b : Int) (h : 0 < b) : (Rat.divInt t b).num = t / (Nat.gcd t.natAbs b.natAbs : Nat) ∧ ((Rat.divInt t b).den : Int) = b / (Nat.gcd t.natAbs b.natAbs : Nat) := by
  have hs : b.sign = 1 := Int.sign_eq_one_of_pos h
  have hg : Int.gcd b t = Nat.gcd t.natAbs b.natAbs := by rw [Int.gcd_comm]; rfl
  constructor
  · rw [Rat.num_divInt, hs, Int.one_mul, hg]
  · rw [Rat.den_divInt, if_neg (by omega), hg, Int.natCast_ediv]
    congr 1
    omega
theorem gcd_step (x y : Int) (hx : 0 ≤ x) (hy : 0 < y) : Nat.gcd y.natAbs (x % y).natAbs = Nat.gcd x.natAbs y.natAbs := by
  obtain ⟨m, rfl⟩ := Int.eq_ofNat_of_zero_le hx
  obtain ⟨n, rfl⟩ := Int.eq_ofNat_of_zero_le (Int.le_of_lt hy)
  have e : ((m : Int) % (n : Int)).natAbs = m % n := by
    rw [← Int.natCast_emod, Int.natAbs_natCast]
  rw [e, Int.natAbs_natCast, Int.natAbs_natCast, Nat.gcd_comm m n, Nat.gcd_rec n m, Nat.gcd_comm]
theorem divInt_neg_neg (t b : Int) : Rat.divInt (-t) (-b) = Rat.divInt t b := Rat.neg_divInt_neg t b
theorem add_divInt (p q : Rat) : Rat.divInt (p.num * q.den + q.num * p.den) (p.den * q.den) = p + q := by
  rw [Rat.add_def', ← Rat.divInt_ofNat, Int.natCast_mul]
theorem sub_divInt (p q : Rat) : Rat.divInt (p.num * q.den - q.num * p.den) (p.den * q.den) = p - q := by
  rw [Rat.sub_def', ← Rat.divInt_ofNat, Int.natCast_mul]
theorem mul_divInt (p q : Rat) : Rat.divInt (p.num * q.num) (p.den * q.den) = p * q := by
  rw [Rat.mul_def', ← Rat.divInt_ofNat, Int.natCast_mul]
theorem div_divInt (p q : Rat) : Rat.divInt (p.num * q.den) (p.den * q.num) = p / q := by
  rw [Rat.div_def, Rat.inv_def]
  conv => rhs; rw [← Rat.num_divInt_den p]
  rw [Rat.divInt_mul_divInt]
theorem lt_cross (p q : Rat) : decide (p.num * q.den < q.num * p.den) = decide (p < q) := by
  rw [decide_eq_decide]
  exact (Rat.lt_iff p q).symm
theorem m_nn {p q : Rat} (hp : Sz 4000 p) (hq : Sz 4000 q) : CMulW p.num q.num := mulW hp.1 hq.1 (by omega)
theorem m_nd {p q : Rat} (hp : Sz 4000 p) (hq : Sz 4000 q) : CMulW p.num q.den := mulW hp.1 (by rw [Int.natAbs_natCast]; exact hq.2) (by omega)
theorem m_dn {p q : Rat} (hp : Sz 4000 p) (hq : Sz 4000 q) : CMulW p.den q.num := mulW (by rw [Int.natAbs_natCast]; exact hp.2) hq.1 (by omega)
theorem m_dd {p q : Rat} (hp : Sz 4000 p) (hq : Sz 4000 q) : CMulW p.den q.den := mulW (by rw [Int.natAbs_natCast]; exact hp.2) (by rw [Int.natAbs_natCast]; exact hq.2) (by omega)
theorem dd_ne (p q : Rat) : (p.den : Int) * q.den ≠ 0 := by
  have h1 := p.den_nz
  have h2 := q.den_nz
  exact Int.mul_ne_zero (by omega) (by omega)
theorem dd_pos (p q : Rat) : 0 < (p.den : Int) * q.den := by
  have h1 := p.den_pos
  have h2 := q.den_pos
  exact Int.mul_pos (by omega) (by omega)
theorem dd_lt {p q : Rat} (hp : Sz 4000 p) (hq : Sz 4000 q) : ((p.den : Int) * q.den).natAbs < 2 ^ 8999 := by
  rw [Int.natAbs_mul, Int.natAbs_natCast, Int.natAbs_natCast]
  refine Nat.lt_of_lt_of_le (Nat.mul_lt_mul'' hp.2 hq.2) ?_
  rw [← Nat.pow_add]
  exact Nat.pow_le_pow_right (by omega) (by omega)
theorem dn_lt {p q : Rat} (hp : Sz 4000 p) (hq : Sz 4000 q) : ((p.den : Int) * q.num).natAbs < 2 ^ 8999 := by
  rw [Int.natAbs_mul, Int.natAbs_natCast]
  refine Nat.lt_of_lt_of_le (Nat.mul_lt_mul'' hp.2 hq.1) ?_
  rw [← Nat.pow_add]
  exact Nat.pow_le_pow_right (by omega) (by omega)
theorem dn_ne {p q : Rat} (h : q ≠ 0) : (p.den : Int) * q.num ≠ 0 := by
  have h1 := p.den_nz
  refine Int.mul_ne_zero (by omega) fun z => h (Rat.num_eq_zero.mp z)
theorem k_tt : kitB "tuple" "tuple" = some true := by decide +kernel
theorem k_ii : kitB "int" "int" = some true := by decide +kernel
theorem k_ib : kitB "int" "bool" = some false := by decide +kernel
theorem k_bb : kitB "bool" "bool" = some true := by decide +kernel
theorem k_ll : kitB "list" "list" = some true := by decide +kernel
theorem k_ss : kitB "str" "str" = some true := by decide +kernel
theorem abs_eq (t : Int) : (if t < 0 then -t else t) = (t.natAbs : Int) := by
  split <;> omega
theorem dQ_int (i : Int) : dQ (i : Rat) = .tup [.int i, .int 1] := rfl
theorem dQ_zero : dQ 0 = .tup [.int 0, .int 1] := rfl
theorem dQ_one : dQ 1 = .tup [.int 1, .int 1] := rfl
end My

/-! ### data of the programs: how == tells them apart -/
namespace My
open PySem PySem.Spec PyProof.Rows L2 GT
/-- flat to the depth n -/
inductive Fl : Nat → Dt → Prop
  | non {n : Nat} : Fl n .non
  | bl {n : Nat} (b : Bool) : Fl n (.bl b)
  | int {n : Nat} (i : Int) : Fl n (.int i)
  | tup {n : Nat} {ds : List Dt} : (∀ d, d ∈ ds → Fl n d) → Fl (n + 1) (.tup ds)
theorem Fl.facts : ∀ {n : Nat} {d : Dt}, Fl n d → noA d = true ∧ (toPy d).canLay0 = true ∧ (toPy d).depth ≤ n := by
  intro n
  induction n with
  | zero =>
    intro d h
    cases h with
    | non => exact ⟨rfl, rfl, Nat.le_refl _⟩
    | bl b => exact ⟨rfl, rfl, Nat.le_refl _⟩
    | int i => exact ⟨rfl, rfl, Nat.le_refl _⟩
  | succ n ih =>
    intro d h
    cases h with
    | non => exact ⟨rfl, rfl, Nat.zero_le _⟩
    | bl b => exact ⟨rfl, rfl, Nat.zero_le _⟩
    | int i => exact ⟨rfl, rfl, Nat.zero_le _⟩
    | @tup _ ds hd =>
      have all : ∀ ds : List Dt, (∀ d, d ∈ ds → Fl n d) → noAA ds = true ∧ PyData.canLayAll0 (toPyA ds) = true ∧ PyData.depthAll (toPyA ds) ≤ n := by
        intro ds
        induction ds with
        | nil => intro _; exact ⟨rfl, rfl, Nat.zero_le _⟩
        | cons d ds ihd =>
          intro hd
          obtain ⟨a1, a2, a3⟩ := ih (hd d List.mem_cons_self)
          obtain ⟨b1, b2, b3⟩ := ihd fun e he => hd e (List.mem_cons_of_mem _ he)
          refine ⟨?_, ?_, ?_⟩
          · rw [noAA, a1, b1]; rfl
          · rw [toPyA, PyData.canLayAll0, a2, b2]; rfl
          · rw [toPyA, PyData.depthAll]
            exact Nat.max_le.mpr ⟨a3, b3⟩
      obtain ⟨c1, c2, c3⟩ := all ds hd
      refine ⟨?_, ?_, ?_⟩
      · rw [noA]; exact c1
      · rw [toPy, PyData.canLay0]; exact c2
      · rw [toPy, PyData.depth]; omega
theorem Fl.all {n : Nat} {ds : List Dt} (h : ∀ d, d ∈ ds → Fl n d) : noAA ds = true ∧ PyData.canLayAll0 (toPyA ds) = true ∧ PyData.depthAll (toPyA ds) ≤ n := by
  obtain ⟨h1, h2, h3⟩ := (Fl.tup h).facts
  rw [noA] at h1
  rw [toPy, PyData.canLay0] at h2
  rw [toPy, PyData.depth] at h3
  exact ⟨h1, h2, by omega⟩
theorem okD_fl {n : Nat} {d : Dt} (h : Fl n d) (hn : n ≤ 60) : okD d = true := by
  obtain ⟨h1, h2, h3⟩ := h.facts
  unfold okD SeqAt.shaped
  rw [h1, h2, decide_eq_true (by omega : (toPy d).depth ≤ 64)]
  rfl
theorem okL_fl {n : Nat} {ds : List Dt} (h : ∀ d, d ∈ ds → Fl n d) (hn : n ≤ 60) : okL ds = true := by
  obtain ⟨h1, h2, h3⟩ := Fl.all h
  unfold okL SeqAt.shaped
  rw [h1, PyData.canLay0, h2, PyData.depth, decide_eq_true (by omega : PyData.depthAll (toPyA ds) + 1 ≤ 64)]
  rfl
/-- typed data: flat, and == is equality -/
structure Good {α : Type} [DecidableEq α] (n : Nat) (enc : α → Dt) : Prop where
  fl : ∀ x, Fl n (enc x)
  eq : ∀ x y, eqD (enc x) (enc y) = decide (x = y)
theorem goodI : Good 0 Dt.int := ⟨fun i => .int i, fun x y => by
  unfold eqD
  rw [toPy, toPy, PyData.eqv]
  by_cases h : x = y <;> simp [h]⟩
section
variable {α β : Type} [DecidableEq α] [DecidableEq β] {n m : Nat} {enc : α → Dt} {enc' : β → Dt}
theorem eqA_good (g : Good n enc) : ∀ xs ys : List α, PyData.eqvAll (toPyA (xs.map enc)) (toPyA (ys.map enc)) = decide (xs = ys)
  | [], [] => by simp [toPyA, PyData.eqvAll]
  | [], y :: ys => by simp [toPyA, PyData.eqvAll]
  | x :: xs, [] => by simp [toPyA, PyData.eqvAll]
  | x :: xs, y :: ys => by
    have e := g.eq x y
    unfold eqD at e
    rw [List.map_cons, List.map_cons, toPyA, toPyA, PyData.eqvAll, eqA_good g xs ys, e]
    by_cases h : x = y
    · subst h
      by_cases h2 : xs = ys <;> simp [h2]
    · simp [h]
theorem goodL (g : Good n enc) : Good (n + 1) (fun xs : List α => Dt.tup (xs.map enc)) := ⟨fun xs => .tup fun d hd => by
    obtain ⟨x, _, rfl⟩ := List.mem_map.mp hd
    exact g.fl x, fun xs ys => by
    unfold eqD
    rw [toPy, toPy, PyData.eqv]
    exact eqA_good g xs ys⟩
theorem Fl.mono {n m : Nat} {d : Dt} (h : Fl n d) (hm : n ≤ m) : Fl m d := by
  induction h generalizing m with
  | non => exact .non
  | bl b => exact .bl b
  | int i => exact .int i
  | tup _ ih =>
    obtain ⟨k, rfl⟩ : ∃ k, m = k + 1 := ⟨m - 1, by omega⟩
    exact .tup fun d hd => ih d hd (by omega)
theorem Good.mono (g : Good n enc) (h : n ≤ m) : Good m enc := ⟨fun x => (g.fl x).mono h, g.eq⟩
theorem goodP (g : Good n enc) (g' : Good n enc') : Good (n + 1) (fun x : α × β => Dt.tup [enc x.1, enc' x.2]) := ⟨fun x => .tup (fun d hd => by
    rcases List.mem_cons.mp hd with h | h
    · exact h ▸ g.fl x.1
    · rcases List.mem_cons.mp h with h | h
      · exact h ▸ g'.fl x.2
      · cases h), fun x y => by
    have e := g.eq x.1 y.1
    have e' := g'.eq x.2 y.2
    unfold eqD at e e' ⊢
    rw [toPy, toPy, PyData.eqv, toPyA, toPyA, toPyA, toPyA, toPyA, toPyA, PyData.eqvAll, PyData.eqvAll, PyData.eqvAll, e, e']
    by_cases h1 : x.1 = y.1
    · by_cases h2 : x.2 = y.2
      · rw [decide_eq_true h1, decide_eq_true h2, decide_eq_true (Prod.ext h1 h2)]
        rfl
      · rw [decide_eq_true h1, decide_eq_false h2, decide_eq_false (fun z => h2 (congrArg Prod.snd z))]
        rfl
    · rw [decide_eq_false h1, decide_eq_false (fun z => h1 (congrArg Prod.fst z))]
      rfl⟩
theorem okL_good (g : Good n enc) (h : n ≤ 60) (xs : List α) : okL (xs.map enc) = true := okL_fl (fun d hd => by
  obtain ⟨x, _, rfl⟩ := List.mem_map.mp hd
  exact g.fl x) h
theorem eqL_good (g : Good n enc) (xs ys : List α) : eqL (xs.map enc) (ys.map enc) = decide (xs = ys) := by
  unfold eqL
  rw [PyData.eqv]
  exact eqA_good g xs ys
theorem okD_good (g : Good n enc) (h : n ≤ 60) (x : α) : okD (enc x) = true := okD_fl (g.fl x) h
end
theorem goodQ : Good 1 dQ := by
  have g := goodP goodI goodI
  refine ⟨fun q => g.fl (q.num, (q.den : Int)), fun p q => ?_⟩
  refine (g.eq (p.num, (p.den : Int)) (q.num, (q.den : Int))).trans ?_
  rw [decide_eq_decide]
  constructor
  · intro e
    injection e with e1 e2
    exact Rat.ext e1 (by omega)
  · intro e
    rw [e]
abbrev dG (g : List Int) : Dt := .tup (g.map .int)
theorem goodG : Good 1 dG := goodL goodI
abbrev Phase := List Int × Rat
abbrev dPh (x : Phase) : Dt := .tup [dG x.1, dQ x.2]
theorem goodPh : Good 2 dPh := goodP goodG goodQ
abbrev dPr (x : Int × Int) : Dt := .tup [.int x.1, .int x.2]
theorem goodPr : Good 1 dPr := goodP goodI goodI
theorem okD_Q (q : Rat) : okD (dQ q) = true := okD_good goodQ (by omega) q
theorem eqD_Q (p q : Rat) : eqD (dQ p) (dQ q) = decide (p = q) := goodQ.eq p q
/-! sums -/
def sumQ (qs : List Rat) : Rat := qs.foldl (· + ·) 0
theorem sumQ_nil : sumQ [] = 0 := rfl
theorem sumQ_snoc (qs : List Rat) (q : Rat) : sumQ (qs ++ [q]) = sumQ qs + q := by
  unfold sumQ
  rw [List.foldl_append]
  rfl
theorem foldl_add (qs : List Rat) : ∀ x : Rat, qs.foldl (· + ·) x = x + sumQ qs := by
  unfold sumQ
  induction qs with
  | nil => intro x; exact (Rat.add_zero x).symm
  | cons q qs ih =>
    intro x
    rw [List.foldl_cons, List.foldl_cons, ih (x + q), ih (0 + q), Rat.zero_add, Rat.add_assoc]
theorem sumQ_cons (q : Rat) (qs : List Rat) : sumQ (q :: qs) = q + sumQ qs := by
  unfold sumQ
  rw [List.foldl_cons, foldl_add, Rat.zero_add]
  rfl
theorem sumQ_append (ps qs : List Rat) : sumQ (ps ++ qs) = sumQ ps + sumQ qs := by
  induction ps with
  | nil => rw [List.nil_append, sumQ_nil, Rat.zero_add]
  | cons p ps ih => rw [List.cons_append, sumQ_cons, sumQ_cons, ih, Rat.add_assoc]
theorem sumQ_sz {k : Nat} : ∀ qs : List Rat, (∀ q, q ∈ qs → Sz k q) → Sz ((k + 1) * qs.length + 1) (sumQ qs) := by
  intro qs
  induction qs with
  | nil => intro _; exact sz_zero (by omega)
  | cons q qs ih =>
    intro h
    rw [sumQ_cons]
    have h1 := h q List.mem_cons_self
    have h2 := ih fun p hp => h p (List.mem_cons_of_mem _ hp)
    refine (sz_add h1 h2).mono ?_
    rw [List.length_cons, Nat.mul_add]
    omega
/-- small enough to be summed -/
def Sum4 (qs : List Rat) : Prop := ∃ k, (∀ q, q ∈ qs → Sz k q) ∧ (k + 1) * qs.length + k + 2 ≤ 4000
theorem Sum4.sz {qs : List Rat} (h : Sum4 qs) : Sz 4000 (sumQ qs) := by
  obtain ⟨k, h1, h2⟩ := h
  exact (sumQ_sz qs h1).mono (by omega)
theorem Sum4.item {qs : List Rat} (h : Sum4 qs) {q : Rat} (hq : q ∈ qs) : Sz 4000 q := by
  obtain ⟨k, h1, h2⟩ := h
  exact (h1 q hq).mono (by omega)
theorem Sum4.pre {ps qs : List Rat} (h : Sum4 (ps ++ qs)) : Sum4 ps := by
  obtain ⟨k, h1, h2⟩ := h
  refine ⟨k, fun q hq => h1 q (List.mem_append_left _ hq), Nat.le_trans ?_ h2⟩
  rw [List.length_append, Nat.mul_add]
  omega
theorem Sum4.sub {ps qs : List Rat} (h : Sum4 qs) (hs : ps.Sublist qs) : Sum4 ps := by
  obtain ⟨k, h1, h2⟩ := h
  refine ⟨k, fun q hq => h1 q (hs.subset hq), Nat.le_trans ?_ h2⟩
  have := Nat.mul_le_mul_left (k + 1) hs.length_le
  omega
theorem Sum4.of {qs : List Rat} {k : Nat} (h : ∀ q, q ∈ qs → Sz k q) {n : Nat} (hn : qs.length ≤ n) (hk : (k + 1) * n + k + 2 ≤ 4000) : Sum4 qs :=
  ⟨k, h, by have := Nat.mul_le_mul_left (k + 1) hn; omega⟩
theorem filter_true {α : Type} (xs : List α) : xs.filter (fun _ => true) = xs := List.filter_eq_self.mpr fun _ _ => rfl
end My

/-! ### plans: plain -/
namespace My
open PySem PySem.Spec PyProof.Rows L2 GT
/-- a cell of the script -/
def cell (ns : List Int) (k : Int) : Int := ns.getD k.toNat 0
def lens (pl : List Phase) : List Rat := pl.map (·.2)
def roundQ (pl : List Phase) : Rat := sumQ (lens pl)
def greenQ (pl : List Phase) (i : Int) : Rat := sumQ (lens (pl.filter fun ph => decide (i ∈ ph.1)))
theorem lens_enc (p : Phase → Bool) (pl : List Phase) : (pl.filter p).map (fun x => dQ x.2) = (lens (pl.filter p)).map dQ := by
  unfold lens
  rw [List.map_map]
  rfl
theorem lens_encT (pl : List Phase) : (pl.filter fun _ => true).map (fun x => dQ x.2) = (lens pl).map dQ := by
  rw [lens_enc, filter_true]
theorem lens_app (a b : List Phase) : lens (a ++ b) = lens a ++ lens b := List.map_append
theorem roundQ_cons (ph : Phase) (pl : List Phase) : roundQ (ph :: pl) = ph.2 + roundQ pl := sumQ_cons _ _
theorem roundQ_app (a b : List Phase) : roundQ (a ++ b) = roundQ a + roundQ b := by
  unfold roundQ
  rw [lens_app, sumQ_append]
theorem roundQ_nil : roundQ [] = 0 := rfl
theorem lens_sub {a b : List Phase} (h : a.Sublist b) : (lens a).Sublist (lens b) := h.map _
/-- the first phase not gone by -/
def goF : List Phase → Rat → Option (List Int)
  | [], _ => none
  | ph :: r, x => if x < ph.2 then some ph.1 else goF r (x - ph.2)
theorem goF_some : ∀ (pl : List Phase) (x : Rat), x < roundQ pl → 0 ≤ x → ∃ g, goF pl x = some g
  | [], x, h, h0 => by
    rw [roundQ_nil] at h
    exact absurd h (by grind)
  | ph :: r, x, h, h0 => by
    rw [goF]
    by_cases c : x < ph.2
    · exact ⟨_, if_pos c⟩
    · rw [if_neg c]
      rw [roundQ_cons] at h
      exact goF_some r _ (by grind) (by grind)
/-- where one stands after k phases -/
def pre (pl : List Phase) (k : Nat) : Rat := roundQ (pl.take k)
theorem pre_zero (pl : List Phase) : pre pl 0 = 0 := rfl
theorem pre_succ {pl : List Phase} {k : Nat} {ph : Phase} (h : pl[k]? = some ph) : pre pl (k + 1) = pre pl k + ph.2 := by
  unfold pre
  rw [List.take_add_one, h]
  show roundQ (pl.take k ++ [ph]) = _
  rw [roundQ_app, roundQ_cons, roundQ_nil]
  grind
theorem pre_sz {a : Nat} {pl : List Phase} (h : ∀ q, q ∈ lens pl → Sz a q) (k : Nat) : Sz ((a + 1) * pl.length + 1) (pre pl k) := by
  have h1 := sumQ_sz (k := a) (lens (pl.take k)) fun q hq => h q ((lens_sub (List.take_sublist k pl)).subset hq)
  refine h1.mono ?_
  have h2 : (lens (pl.take k)).length ≤ pl.length := by
    unfold lens
    rw [List.length_map, List.length_take]
    exact Nat.min_le_right _ _
  have := Nat.mul_le_mul_left (a + 1) h2
  omega
/-- a moment less its whole rounds -/
def withinQ (pl : List Phase) (m : Rat) : Rat := m - (((m / roundQ pl).num / ((m / roundQ pl).den : Int) : Int) : Rat) * roundQ pl
theorem floor_at (r : Int) (W p : Rat) (hW : 0 < W) (h0 : 0 ≤ p) (h1 : p < W) : (((r : Rat) * W + p) / W).floor = r := by
  have a1 : r ≤ (((r : Rat) * W + p) / W).floor := by
    rw [Rat.le_floor_iff]
    refine Rat.not_lt.mp fun h => ?_
    rw [Rat.div_lt_iff hW] at h
    grind
  have a2 : (((r : Rat) * W + p) / W).floor < r + 1 := by
    rw [Rat.floor_lt_iff, Rat.div_lt_iff hW]
    have e : ((r + 1 : Int) : Rat) = (r : Rat) + 1 := by rw [Rat.intCast_add]; rfl
    rw [e, Rat.add_mul, Rat.one_mul]
    exact Rat.add_lt_add_left.mpr h1
  omega
theorem withinQ_at {pl : List Phase} {r : Int} {p : Rat} (hW : 0 < roundQ pl) (h0 : 0 ≤ p) (h1 : p < roundQ pl) : withinQ pl ((r : Rat) * roundQ pl + p) = p := by
  unfold withinQ
  rw [← Rat.floor_def, floor_at r _ p hW h0 h1]
  grind
/-! drawn plans -/
def bitsN (n : Int) (s : Nat) : List Int := ((List.range s).filter fun (i : Nat) => decide (n / (2 : Int) ^ i % 2 = 1)).map Int.ofNat
theorem bitsN_succ (n : Int) (s : Nat) : bitsN n (s + 1) = if n / (2 : Int) ^ s % 2 = 1 then bitsN n s ++ [(s : Int)] else bitsN n s := by
  unfold bitsN
  rw [List.range_succ, List.filter_append, List.map_append, List.filter_cons]
  by_cases h : n / (2 : Int) ^ s % 2 = 1
  · rw [if_pos (decide_eq_true h), if_pos h]
    rfl
  · rw [if_neg (by rw [decide_eq_false h]; decide), if_neg h]
    exact List.append_nil _
theorem half_pow (n : Int) (i : Nat) : n / (2 : Int) ^ i / 2 = n / (2 : Int) ^ (i + 1) := by
  rw [Int.ediv_ediv_of_nonneg (Int.le_of_lt (Int.pow_pos (by decide))), Int.pow_succ]
def phaseOf (ns : List Int) (st : Int) (s : Nat) (k : Nat) : Phase := (bitsN (cell ns (st + 2 * (k : Int))) s, Rat.divInt (1 + cell ns (st + 2 * (k : Int) + 1) % 20) (1 + cell ns (st + 2 * (k : Int) + 1) / 20 % 12))
def planOf (ns : List Int) (st : Int) (s m : Nat) : List Phase := (List.range m).map (phaseOf ns st s)
theorem planOf_succ (ns : List Int) (st : Int) (s m : Nat) : planOf ns st s (m + 1) = planOf ns st s m ++ [phaseOf ns st s m] := by
  unfold planOf
  rw [List.range_succ, List.map_append]
  rfl
theorem planOf_len (ns : List Int) (st : Int) (s m : Nat) : (planOf ns st s m).length = m := by
  unfold planOf
  rw [List.length_map, List.length_range]
theorem divInt_pos {t b : Int} (ht : 0 < t) (hb : 0 < b) : 0 < Rat.divInt t b := by
  refine Rat.lt_of_le_of_ne ((Rat.divInt_nonneg_iff_of_pos_right hb).mpr (Int.le_of_lt ht)) fun e => ?_
  have h := (Rat.divInt_eq_divInt_iff (d₁ := 1) (d₂ := b) (n₁ := 0) (n₂ := t) (by decide) (by omega)).mp (by rw [← e]; exact Rat.zero_divInt 1)
  omega
theorem phaseOf_pos (ns : List Int) (st : Int) (s k : Nat) : 0 < (phaseOf ns st s k).2 := by
  have h1 := Int.emod_nonneg (cell ns (st + 2 * (k : Int) + 1)) (show (20 : Int) ≠ 0 by decide)
  have h2 := Int.emod_nonneg (cell ns (st + 2 * (k : Int) + 1) / 20) (show (12 : Int) ≠ 0 by decide)
  exact divInt_pos (by omega) (by omega)
theorem phaseOf_sz (ns : List Int) (st : Int) (s k : Nat) : Sz 5 (phaseOf ns st s k).2 := by
  have h1 := Int.emod_nonneg (cell ns (st + 2 * (k : Int) + 1)) (show (20 : Int) ≠ 0 by decide)
  have h2 := Int.emod_nonneg (cell ns (st + 2 * (k : Int) + 1) / 20) (show (12 : Int) ≠ 0 by decide)
  have h3 := Int.emod_lt_of_pos (cell ns (st + 2 * (k : Int) + 1)) (show (0 : Int) < 20 by decide)
  have h4 := Int.emod_lt_of_pos (cell ns (st + 2 * (k : Int) + 1) / 20) (show (0 : Int) < 12 by decide)
  exact sz_divInt (by omega) (by omega) (by omega)
theorem planOf_sz {ns : List Int} {st : Int} {s m : Nat} : ∀ q, q ∈ lens (planOf ns st s m) → Sz 5 q := by
  intro q hq
  obtain ⟨ph, h1, rfl⟩ := List.mem_map.mp hq
  obtain ⟨k, _, rfl⟩ := List.mem_map.mp h1
  exact phaseOf_sz ns st s k
theorem planOf_pos {ns : List Int} {st : Int} {s m : Nat} : ∀ ph, ph ∈ planOf ns st s m → 0 < ph.2 := by
  intro ph h1
  obtain ⟨k, _, rfl⟩ := List.mem_map.mp h1
  exact phaseOf_pos ns st s k
theorem roundQ_nonneg : ∀ {pl : List Phase}, (∀ ph, ph ∈ pl → 0 < ph.2) → 0 ≤ roundQ pl
  | [], _ => by rw [roundQ_nil]; exact Rat.le_refl
  | ph :: r, h => by
    rw [roundQ_cons]
    have h1 := h ph List.mem_cons_self
    have h2 := roundQ_nonneg fun x hx => h x (List.mem_cons_of_mem _ hx)
    grind
theorem roundQ_pos {pl : List Phase} (h : ∀ ph, ph ∈ pl → 0 < ph.2) (hn : pl ≠ []) : 0 < roundQ pl := by
  cases pl with
  | nil => exact absurd rfl hn
  | cons ph r =>
    rw [roundQ_cons]
    have h1 := h ph List.mem_cons_self
    have h2 := roundQ_nonneg fun x hx => h x (List.mem_cons_of_mem _ hx)
    grind
theorem roundQ_take_lt {pl : List Phase} (h : ∀ ph, ph ∈ pl → 0 < ph.2) {k : Nat} (hk : k < pl.length) : 0 ≤ roundQ (pl.take k) ∧ roundQ (pl.take k) < roundQ pl := by
  have h1 : 0 ≤ roundQ (pl.take k) := roundQ_nonneg fun x hx => h x (List.mem_of_mem_take hx)
  have h2 : 0 < roundQ (pl.drop k) := roundQ_pos (fun x hx => h x (List.mem_of_mem_drop hx)) fun e => by
    have := congrArg List.length e
    rw [List.length_drop] at this
    simp at this
    omega
  have e : roundQ pl = roundQ (pl.take k) + roundQ (pl.drop k) := by rw [← roundQ_app, List.take_append_drop]
  exact ⟨h1, by grind⟩
/-- the drawn part of a round -/
def partQ (ns : List Int) (pl : List Phase) (W : Rat) : Rat :=
  if cell ns 2 % 2 = 1 then roundQ (pl.take (cell ns 2 / 2 % (pl.length : Int)).toNat) else Rat.divInt (W.num * (cell ns 3 % (1 + cell ns 2 / 2 % 97))) (W.den * (1 + cell ns 2 / 2 % 97))
theorem frac_part (W : Rat) (hW : 0 < W) (c p : Int) (h0 : 0 ≤ c) (h1 : c < p) : 0 ≤ Rat.divInt (W.num * c) (W.den * p) ∧ Rat.divInt (W.num * c) (W.den * p) < W := by
  have hp : 0 < p := by omega
  have hd : (0 : Int) < W.den := by have := W.den_pos; omega
  have hn : 0 < W.num := by
    have a1 : 0 ≤ W.num := Rat.num_nonneg.mpr (Rat.le_of_lt hW)
    have a2 : W.num ≠ 0 := fun e => by
      rw [Rat.num_eq_zero] at e
      rw [e] at hW
      exact Rat.lt_irrefl hW
    omega
  refine ⟨Rat.divInt_nonneg (Int.mul_nonneg (by omega) h0) (Int.mul_nonneg (by omega) (by omega)), ?_⟩
  have e : Rat.divInt (W.num * c) (W.den * p) = W * Rat.divInt c p := by
    rw [← Rat.divInt_mul_divInt, Rat.num_divInt_den]
  rw [e]
  have hlt : Rat.divInt c p < 1 := by
    have e2 : (1 : Rat) - Rat.divInt c p = Rat.divInt (p - c) p := by
      rw [Rat.divInt_eq_div, Rat.divInt_eq_div]
      have hne : (p : Rat) ≠ 0 := fun z => by
        have := Rat.intCast_pos.mpr hp
        rw [z] at this
        exact Rat.lt_irrefl this
      rw [Rat.intCast_sub, Rat.div_def, Rat.div_def, Rat.sub_eq_add_neg, Rat.sub_eq_add_neg, Rat.add_mul, Rat.mul_inv_cancel _ hne, Rat.neg_mul]
    have := divInt_pos (t := p - c) (b := p) (by omega) hp
    rw [← e2] at this
    grind
  have := (Rat.mul_lt_mul_left hW).mpr hlt
  rwa [Rat.mul_one] at this
theorem partQ_in {ns : List Int} {pl : List Phase} (h : ∀ ph, ph ∈ pl → 0 < ph.2) (hn : pl ≠ []) : 0 ≤ partQ ns pl (roundQ pl) ∧ partQ ns pl (roundQ pl) < roundQ pl := by
  have hl : 0 < pl.length := List.length_pos_iff.mpr hn
  unfold partQ
  split
  · have h1 := Int.emod_nonneg (cell ns 2 / 2) (show (pl.length : Int) ≠ 0 by omega)
    have h2 := Int.emod_lt_of_pos (cell ns 2 / 2) (show (0 : Int) < pl.length by omega)
    exact roundQ_take_lt h (by omega)
  · have h1 := Int.emod_nonneg (cell ns 2 / 2) (show (97 : Int) ≠ 0 by decide)
    have h2 := Int.emod_nonneg (cell ns 3) (show (1 + cell ns 2 / 2 % 97 : Int) ≠ 0 by omega)
    have h3 := Int.emod_lt_of_pos (cell ns 3) (show (0 : Int) < 1 + cell ns 2 / 2 % 97 by omega)
    exact frac_part _ (roundQ_pos h hn) _ _ h2 h3
end My

/-! ### the longest wait: plain -/
namespace My
open PySem PySem.Spec PyProof.Rows L2 GT
def onB (i : Int) (ph : Phase) : Bool := decide (i ∈ ph.1)
def stepS (i : Int) (s : Rat) (ph : Phase) : Rat := if onB i ph = true then 0 else s + ph.2
def mx (a b : Rat) : Rat := if a < b then b else a
def stepP (i : Int) (z : Rat × Rat) (ph : Phase) : Rat × Rat := (mx z.1 (stepS i z.2 ph), stepS i z.2 ph)
def mxo (a : Rat) : Option Rat → Rat
  | none => a
  | some s => mx a s
def stepW (i : Int) (z : Rat × Option Rat) (ph : Phase) : Rat × Option Rat := if onB i ph = true then (mxo z.1 z.2, some 0) else (z.1, z.2.map (· + ph.2))
def foldP (i : Int) (z : Rat × Rat) (xs : List Phase) : Rat × Rat := xs.foldl (stepP i) z
def foldW (i : Int) (z : Rat × Option Rat) (xs : List Phase) : Rat × Option Rat := xs.foldl (stepW i) z
theorem foldP_cons (i : Int) (z : Rat × Rat) (x : Phase) (xs : List Phase) : foldP i z (x :: xs) = foldP i (stepP i z x) xs := rfl
theorem foldW_cons (i : Int) (z : Rat × Option Rat) (x : Phase) (xs : List Phase) : foldW i z (x :: xs) = foldW i (stepW i z x) xs := rfl
theorem foldP_app (i : Int) (z : Rat × Rat) (xs ys : List Phase) : foldP i z (xs ++ ys) = foldP i (foldP i z xs) ys := List.foldl_append
theorem foldW_app (i : Int) (z : Rat × Option Rat) (xs ys : List Phase) : foldW i z (xs ++ ys) = foldW i (foldW i z xs) ys := List.foldl_append
theorem mx_le {a b c : Rat} (h1 : a ≤ c) (h2 : b ≤ c) : mx a b ≤ c := by unfold mx; split <;> assumption
theorem le_mx_l (a b : Rat) : a ≤ mx a b := by unfold mx; split <;> grind
theorem le_mx_r (a b : Rat) : b ≤ mx a b := by unfold mx; split <;> grind
theorem mx_assoc (a b c : Rat) : mx (mx a b) c = mx a (mx b c) := by unfold mx; grind
theorem mx_zero {a : Rat} (h : 0 ≤ a) : mx a 0 = a := by unfold mx; grind
theorem mx_self (a : Rat) : mx a a = a := by unfold mx; split <;> rfl
theorem zero_mx {a : Rat} (h : 0 ≤ a) : mx 0 a = a := by unfold mx; grind
theorem foldP_ge (i : Int) : ∀ (xs : List Phase) (z : Rat × Rat), z.1 ≤ (foldP i z xs).1
  | [], z => Rat.le_refl
  | x :: xs, z => Rat.le_trans (le_mx_l _ _) (foldP_ge i xs (stepP i z x))
/-- what was longest before doesn't matter for the rest -/
theorem foldP_mx (i : Int) : ∀ (xs : List Phase) (M L s : Rat), (foldP i (mx M L, s) xs).1 = mx M (foldP i (L, s) xs).1
  | [], M, L, s => rfl
  | x :: xs, M, L, s => by
    rw [foldP_cons, foldP_cons]
    have e : stepP i (mx M L, s) x = (mx M (mx L (stepS i s x)), stepS i s x) := by
      show (mx (mx M L) _, _) = _
      rw [mx_assoc]
    rw [e]
    exact foldP_mx i xs M (mx L (stepS i s x)) (stepS i s x)
def pos2 (xs : List Phase) : Prop := ∀ ph, ph ∈ xs → 0 < ph.2
/-- both walk alike -/
theorem sim (i : Int) : ∀ (xs : List Phase) (L' s : Rat), 0 ≤ L' → 0 ≤ s → pos2 xs → ∃ L2 s2, foldW i (L', some s) xs = (L2, some s2) ∧ foldP i (mx L' s, s) xs = (mx L2 s2, s2) ∧ L' ≤ L2 ∧ 0 ≤ s2
  | [], L', s, h1, h2, _ => ⟨L', s, rfl, rfl, Rat.le_refl, h2⟩
  | x :: xs, L', s, h1, h2, hp => by
    have hx := hp x List.mem_cons_self
    have hr : pos2 xs := fun y hy => hp y (List.mem_cons_of_mem _ hy)
    rw [foldW_cons, foldP_cons]
    by_cases h : onB i x = true
    · have e1 : stepW i (L', some s) x = (mx L' s, some 0) := if_pos h
      have e2 : stepS i s x = 0 := if_pos h
      have hm : 0 ≤ mx L' s := Rat.le_trans h1 (le_mx_l _ _)
      have e3 : stepP i (mx L' s, s) x = (mx (mx L' s) 0, 0) := by
        show (mx (mx L' s) (stepS i s x), stepS i s x) = _
        rw [e2]
      rw [e1, e3]
      obtain ⟨L2, s2, a1, a2, a3, a4⟩ := sim i xs (mx L' s) 0 hm Rat.le_refl hr
      exact ⟨L2, s2, a1, a2, Rat.le_trans (le_mx_l _ _) a3, a4⟩
    · have e1 : stepW i (L', some s) x = (L', some (s + x.2)) := if_neg h
      have e2 : stepS i s x = s + x.2 := if_neg h
      have hq : 0 ≤ s + x.2 := by grind
      have e3 : stepP i (mx L' s, s) x = (mx L' (s + x.2), s + x.2) := by
        show (mx (mx L' s) (stepS i s x), stepS i s x) = _
        rw [e2]
        have : mx (mx L' s) (s + x.2) = mx L' (s + x.2) := by unfold mx; grind
        rw [this]
      rw [e1, e3]
      exact sim i xs L' (s + x.2) h1 hq hr
theorem foldW_off (i : Int) : ∀ (xs : List Phase), (∀ x, x ∈ xs → ¬ onB i x = true) → foldW i (0, none) xs = (0, none)
  | [], _ => rfl
  | x :: xs, h => by
    rw [foldW_cons]
    have e : stepW i (0, none) x = (0, none) := if_neg (h x List.mem_cons_self)
    rw [e]
    exact foldW_off i xs fun y hy => h y (List.mem_cons_of_mem _ hy)
def waitP (i : Int) (pl : List Phase) : Option Rat := match pl.findIdx? (onB i) with
  | none => none
  | some k => some (foldP i (0, 0) (pl.drop k ++ pl.take k)).1
def waitL (i : Int) (pl : List Phase) : Option Rat := match foldW i (0, none) (pl ++ pl ++ pl) with
  | (_, none) => none
  | (L, some _) => some L
theorem wait_eq (i : Int) (pl : List Phase) (hp : pos2 pl) : waitL i pl = waitP i pl := by
  unfold waitL waitP
  cases hf : pl.findIdx? (onB i) with
  | none =>
    have hn : ∀ x, x ∈ pl → ¬ onB i x = true := fun x hx => by
      have := List.findIdx?_eq_none_iff.mp hf x hx
      rw [this]
      decide
    rw [foldW_off i (pl ++ pl ++ pl) fun x hx => hn x (by simpa using hx)]
  | some k =>
    show _ = some (foldP i (0, 0) (pl.drop k ++ pl.take k)).1
    obtain ⟨hk, hon, hoff⟩ := List.findIdx?_eq_some_iff_getElem.mp hf
    have hsplit : pl = pl.take k ++ pl.drop k := (List.take_append_drop k pl).symm
    have hd : pl.drop k = pl[k] :: pl.drop (k + 1) := List.drop_eq_getElem_cons hk
    have hA : ∀ x, x ∈ pl.take k → ¬ onB i x = true := fun x hx => by
      obtain ⟨j, hj, e⟩ := List.mem_take_iff_getElem.mp hx
      have := hoff j (by omega)
      rw [← e]
      exact this
    have hpC : pos2 (pl.drop k) := fun x hx => hp x (List.mem_of_mem_drop hx)
    have hpA : pos2 (pl.take k) := fun x hx => hp x (List.mem_of_mem_take hx)
    generalize hAd : pl.take k = A at *
    generalize hCd : pl.drop k = C at *
    generalize pl[k] = c at *
    generalize pl.drop (k + 1) = C' at *
    have hrot : pos2 (C ++ A) := fun x hx => by
      rcases List.mem_append.mp hx with h | h
      · exact hpC x h
      · exact hpA x h
    have e3 : pl ++ pl ++ pl = A ++ ((C ++ A) ++ ((C ++ A) ++ C)) := by
      rw [hsplit]
      simp only [List.append_assoc]
    rw [e3, foldW_app, foldW_off i A hA]
    try dsimp only
    -- any state: the first of C sets it
    have firstP : ∀ (M s : Rat) (Y : List Phase), 0 ≤ M → foldP i (M, s) (C ++ Y) = foldP i (M, 0) (C' ++ Y) := fun M s Y hM => by
      rw [hd, List.cons_append, foldP_cons]
      have e2 : stepS i s c = 0 := if_pos hon
      have : stepP i (M, s) c = (M, 0) := by
        show (mx M (stepS i s c), stepS i s c) = _
        rw [e2, mx_zero hM]
      rw [this]
    have firstW : ∀ (z : Rat × Option Rat) (Y : List Phase), foldW i z (C ++ Y) = foldW i (mxo z.1 z.2, some 0) (C' ++ Y) := fun z Y => by
      rw [hd, List.cons_append, foldW_cons]
      have : stepW i z c = (mxo z.1 z.2, some 0) := if_pos hon
      rw [this]
    have hC' : pos2 C' := fun x hx => hpC x (by rw [hd]; exact List.mem_cons_of_mem _ hx)
    have hR' : ∀ Y : List Phase, pos2 Y → pos2 (C' ++ Y) := fun Y hY x hx => by
      rcases List.mem_append.mp hx with h | h
      · exact hC' x h
      · exact hY x h
    -- P: the answer
    generalize hP : (foldP i (0, 0) (C ++ A)).1 = P
    have hP0 : 0 ≤ P := hP ▸ foldP_ge i (C ++ A) (0, 0)
    have hP' : (foldP i (0, 0) (C' ++ A)).1 = P := by
      rw [← hP, firstP 0 0 A Rat.le_refl]
    -- the first round
    rw [foldW_app, firstW (0, none) A]
    obtain ⟨L1, s1, a1, a2, a3, a4⟩ := sim i (C' ++ A) 0 0 Rat.le_refl Rat.le_refl (hR' A hpA)
    have m00 : mx 0 0 = 0 := mx_self 0
    show (match foldW i (foldW i (0, some 0) (C' ++ A)) ((C ++ A) ++ C) with | (_, none) => none | (L, some _) => some L) = some P
    rw [a1]
    rw [m00] at a2
    have hP1 : mx L1 s1 = P := by rw [← hP', a2]
    -- the rest
    have er : (C ++ A) ++ C = C ++ (A ++ C) := List.append_assoc _ _ _
    rw [er, firstW (L1, some s1) (A ++ C)]
    show (match foldW i (mx L1 s1, some 0) (C' ++ (A ++ C)) with | (_, none) => none | (L, some _) => some L) = some P
    rw [hP1]
    have hAC : pos2 (A ++ C) := fun x hx => by
      rcases List.mem_append.mp hx with h | h
      · exact hpA x h
      · exact hpC x h
    obtain ⟨L2, s2, b1, b2, b3, b4⟩ := sim i (C' ++ (A ++ C)) P 0 hP0 Rat.le_refl (hR' _ hAC)
    rw [b1]
    show some L2 = some P
    -- over the rest the longest stays
    have stay : ∀ (s : Rat) (Y : List Phase), (foldP i (P, s) (C ++ A)).1 = P := fun s _ => by
      rw [firstP P s A hP0]
      have e4 : mx P 0 = P := mx_zero hP0
      have e5 := foldP_mx i (C' ++ A) P 0 0
      rw [e4] at e5
      rw [e5, hP', mx_self]
    have e6 : (foldP i (mx P 0, 0) (C' ++ (A ++ C))).1 ≤ P := by
      rw [mx_zero hP0]
      have e7 : foldP i (P, 0) (C' ++ (A ++ C)) = foldP i (P, 0) ((C ++ A) ++ C) := by rw [er, firstP P 0 (A ++ C) hP0]
      rw [e7, foldP_app]
      have e8 := stay 0 []
      generalize foldP i (P, 0) (C ++ A) = z at e8
      obtain ⟨z1, z2⟩ := z
      have e8' : z1 = P := e8
      subst e8'
      have e9 := stay z2 []
      rw [foldP_app] at e9
      exact Rat.le_trans (foldP_ge i A _) (by rw [e9]; exact Rat.le_refl)
    rw [b2] at e6
    have e10 : L2 ≤ P := Rat.le_trans (le_mx_l L2 s2) e6
    rw [Rat.le_antisymm e10 b3]
/-! sizes -/
theorem mx_sz {n : Nat} {a b : Rat} (ha : Sz n a) (hb : Sz n b) : Sz n (mx a b) := by unfold mx; split <;> assumption
theorem stepS_sz {k n : Nat} {i : Int} {s : Rat} {ph : Phase} (hs : Sz n s) (hn : 0 < n) (hq : Sz k ph.2) : Sz (n + (k + 1)) (stepS i s ph) := by
  unfold stepS
  split
  · exact sz_zero (by omega)
  · exact (sz_add hs hq).mono (by omega)
theorem foldP_sz {k : Nat} (i : Int) : ∀ (xs : List Phase) (n : Nat) (z : Rat × Rat), 0 < n → Sz n z.1 → Sz n z.2 → (∀ ph, ph ∈ xs → Sz k ph.2) → Sz (n + (k + 1) * xs.length) (foldP i z xs).1 ∧ Sz (n + (k + 1) * xs.length) (foldP i z xs).2
  | [], n, z, hn, h1, h2, _ => ⟨h1, h2⟩
  | x :: xs, n, z, hn, h1, h2, hx => by
    rw [foldP_cons]
    have a1 : Sz (n + (k + 1)) (stepS i z.2 x) := stepS_sz h2 hn (hx x List.mem_cons_self)
    have := foldP_sz i xs (n + (k + 1)) (stepP i z x) (by omega) (mx_sz (h1.mono (by omega)) a1) a1 fun y hy => hx y (List.mem_cons_of_mem _ hy)
    have e : n + (k + 1) + (k + 1) * xs.length = n + (k + 1) * (x :: xs).length := by
      rw [List.length_cons, Nat.mul_add]
      omega
    rw [e] at this
    exact this
def SzO (n : Nat) (o : Option Rat) : Prop := ∀ s, o = some s → Sz n s
theorem foldW_sz {k : Nat} (i : Int) : ∀ (xs : List Phase) (n : Nat) (z : Rat × Option Rat), 0 < n → Sz n z.1 → SzO n z.2 → (∀ ph, ph ∈ xs → Sz k ph.2) → Sz (n + (k + 1) * xs.length) (foldW i z xs).1 ∧ SzO (n + (k + 1) * xs.length) (foldW i z xs).2
  | [], n, z, hn, h1, h2, _ => ⟨h1, h2⟩
  | x :: xs, n, z, hn, h1, h2, hx => by
    rw [foldW_cons]
    have hq := hx x List.mem_cons_self
    have b1 : Sz (n + (k + 1)) (stepW i z x).1 := by
      unfold stepW
      split
      · show Sz _ (mxo z.1 z.2)
        cases hz : z.2 with
        | none => exact h1.mono (by omega)
        | some s => exact mx_sz (h1.mono (by omega)) ((h2 s hz).mono (by omega))
      · exact h1.mono (by omega)
    have b2 : SzO (n + (k + 1)) (stepW i z x).2 := by
      unfold stepW
      split
      · intro s e
        cases e
        exact sz_zero (by omega)
      · intro s e
        cases hz : z.2 with
        | none => rw [hz] at e; cases e
        | some t =>
          rw [hz] at e
          cases e
          exact (sz_add (h2 t hz) hq).mono (by omega)
    have := foldW_sz i xs (n + (k + 1)) (stepW i z x) (by omega) b1 b2 fun y hy => hx y (List.mem_cons_of_mem _ hy)
    have e : n + (k + 1) + (k + 1) * xs.length = n + (k + 1) * (x :: xs).length := by
      rw [List.length_cons, Nat.mul_add]
      omega
    rw [e] at this
    exact this
/-! as data -/
def dO : Option Rat → Dt
  | none => .non
  | some q => dQ q
def dN : Option Nat → Dt
  | none => .non
  | some k => .int k
theorem findIdx_snoc (p : Phase → Bool) (xs : List Phase) (x : Phase) : (xs ++ [x]).findIdx? p = (xs.findIdx? p).or (if p x = true then some xs.length else none) := by
  rw [List.findIdx?_append, List.findIdx?_singleton]
  congr 1
  by_cases h : p x = true
  · rw [if_pos h, if_pos h]
    show some (0 + xs.length) = _
    rw [Nat.zero_add]
  · rw [if_neg h, if_neg h]
    rfl
end My

namespace My
open PySem PySem.Spec PyProof.Rows L2 GT
def topS (i : Nat) : Stmt := PySem.Challenge.pw_greenturns_k05_the_longest_wait.main.body.getD i (.Pass ⟨0, 0, 0, 0⟩)
abbrev s_lowest : Stmt := topS 2
abbrev n_lowest : List Str := ["top", "bottom", "one", "other", "rest"]
theorem sc_lowest : FnScope n_lowest ["top", "bottom"] (defScope s_lowest) := ⟨rfl, rfl, rfl, by decide +kernel, rfl, by decide +kernel, by decide +kernel⟩
abbrev s_plus : Stmt := topS 3
abbrev n_plus : List Str := ["one", "other"]
theorem sc_plus : FnScope n_plus ["one", "other"] (defScope s_plus) := ⟨rfl, rfl, rfl, by decide +kernel, rfl, by decide +kernel, by decide +kernel⟩
abbrev s_less : Stmt := topS 4
abbrev n_less : List Str := ["one", "other"]
theorem sc_less : FnScope n_less ["one", "other"] (defScope s_less) := ⟨rfl, rfl, rfl, by decide +kernel, rfl, by decide +kernel, by decide +kernel⟩
abbrev s_longest_wait : Stmt := topS 6
abbrev n_longest_wait : List Str := ["plan", "stream", "first", "k", "longest", "stretch", "phase"]
theorem sc_longest_wait : FnScope n_longest_wait ["plan", "stream"] (defScope s_longest_wait) := ⟨rfl, rfl, rfl, by decide +kernel, rfl, by decide +kernel, by decide +kernel⟩
abbrev s__law_cell_at : Stmt := topS 8
abbrev n__law_cell_at : List Str := ["script", "k"]
theorem sc__law_cell_at : FnScope n__law_cell_at ["script", "k"] (defScope s__law_cell_at) := ⟨rfl, rfl, rfl, by decide +kernel, rfl, by decide +kernel, by decide +kernel⟩
abbrev s__law_low : Stmt := topS 9
abbrev n__law_low : List Str := ["top", "bottom", "one", "other", "rest"]
theorem sc__law_low : FnScope n__law_low ["top", "bottom"] (defScope s__law_low) := ⟨rfl, rfl, rfl, by decide +kernel, rfl, by decide +kernel, by decide +kernel⟩
abbrev s__law_sum : Stmt := topS 10
abbrev n__law_sum : List Str := ["one", "other"]
theorem sc__law_sum : FnScope n__law_sum ["one", "other"] (defScope s__law_sum) := ⟨rfl, rfl, rfl, by decide +kernel, rfl, by decide +kernel, by decide +kernel⟩
abbrev s__law_less : Stmt := topS 12
abbrev n__law_less : List Str := ["one", "other"]
theorem sc__law_less : FnScope n__law_less ["one", "other"] (defScope s__law_less) := ⟨rfl, rfl, rfl, by decide +kernel, rfl, by decide +kernel, by decide +kernel⟩
abbrev s__law_whole : Stmt := topS 13
abbrev n__law_whole : List Str := ["found"]
theorem sc__law_whole : FnScope n__law_whole ["found"] (defScope s__law_whole) := ⟨rfl, rfl, rfl, by decide +kernel, rfl, by decide +kernel, by decide +kernel⟩
abbrev s__law_fraction : Stmt := topS 14
abbrev n__law_fraction : List Str := ["found", "due"]
theorem sc__law_fraction : FnScope n__law_fraction ["found", "due"] (defScope s__law_fraction) := ⟨rfl, rfl, rfl, by decide +kernel, rfl, by decide +kernel, by decide +kernel⟩
abbrev s__law_bits : Stmt := topS 15
abbrev n__law_bits : List Str := ["number", "streams", "group", "stream"]
theorem sc__law_bits : FnScope n__law_bits ["number", "streams"] (defScope s__law_bits) := ⟨rfl, rfl, rfl, by decide +kernel, rfl, by decide +kernel, by decide +kernel⟩
abbrev s__law_plan : Stmt := topS 16
abbrev n__law_plan : List Str := ["script", "start", "streams", "phases", "plan", "k", "cell", "length"]
theorem sc__law_plan : FnScope n__law_plan ["script", "start", "streams", "phases"] (defScope s__law_plan) := ⟨rfl, rfl, rfl, by decide +kernel, rfl, by decide +kernel, by decide +kernel⟩
abbrev s__law_wait : Stmt := topS 17
abbrev n__law_wait : List Str := ["plan", "stream", "longest", "stretch", "phase"]
theorem sc__law_wait : FnScope n__law_wait ["plan", "stream"] (defScope s__law_wait) := ⟨rfl, rfl, rfl, by decide +kernel, rfl, by decide +kernel, by decide +kernel⟩
abbrev s_law : Stmt := topS 18
abbrev n_law : List Str := ["script", "plan", "handed", "stream", "due", "found"]
theorem sc_law : FnScope n_law ["script"] (defScope s_law) := ⟨rfl, rfl, rfl, by decide +kernel, rfl, by decide +kernel, by decide +kernel⟩
structure Adr where
  a_NOUGHT : Addr
structure Txt (K : Fg) (mg : Str → Option Value) (a : Adr) : Prop where
  f_lowest : At K mg "lowest" s_lowest ["top", "bottom"]
  f_plus : At K mg "plus" s_plus ["one", "other"]
  f_less : At K mg "less" s_less ["one", "other"]
  f_longest_wait : At K mg "longest_wait" s_longest_wait ["plan", "stream"]
  f__law_cell_at : At K mg "_law_cell_at" s__law_cell_at ["script", "k"]
  f__law_low : At K mg "_law_low" s__law_low ["top", "bottom"]
  f__law_sum : At K mg "_law_sum" s__law_sum ["one", "other"]
  f__law_less : At K mg "_law_less" s__law_less ["one", "other"]
  f__law_whole : At K mg "_law_whole" s__law_whole ["found"]
  f__law_fraction : At K mg "_law_fraction" s__law_fraction ["found", "due"]
  f__law_bits : At K mg "_law_bits" s__law_bits ["number", "streams"]
  f__law_plan : At K mg "_law_plan" s__law_plan ["script", "start", "streams", "phases"]
  f__law_wait : At K mg "_law_wait" s__law_wait ["plan", "stream"]
  f_law : At K mg "law" s_law ["script"]
  g_NOUGHT : mg "NOUGHT" = some (.ref a.a_NOUGHT)
  t_NOUGHT : ∀ H, Tp K H (.ref a.a_NOUGHT) (.tup [.int 0, .int 1])
  z_abs : mg "abs" = none
  z_bool : mg "bool" = none
  z_int : mg "int" = none
  z_isinstance : mg "isinstance" = none
  z_len : mg "len" = none
  z_list : mg "list" = none
  z_range : mg "range" = none
  z_tuple : mg "tuple" = none
end My
/-! ### the walk's own short words -/
open PySem PySem.Spec PyProof.Rows L2 GT My
set_option hygiene false in
local macro_rules | `(tactic| walk_at "ty") => `(tactic| (intro _; first | exact Tp.int _ | exact Tp.bl _ | exact Tp.str _))
set_option hygiene false in
local macro_rules | `(tactic| walk_at "ev") => `(tactic| first
  | ((with_reducible apply ev_var); rfl)
  | (with_reducible exact ev_int)
  | ((with_reducible refine Ev.isD ev_int ?_); rfl)
  | (with_reducible exact ev_bl)
  | (with_reducible exact ev_str)
  | (with_reducible exact ev_non)
  | (with_reducible exact ev_adr)
  | ((with_reducible apply ev_rI0); (case' ha => walk_at "ev"); (case' hb => walk_at "ev"); (case hg => walk_at "ty"))
  | ((with_reducible apply ev_rI); (case' ha => walk_at "ev"); (case' hb => walk_at "ev"); (case hg => walk_at "ty"); (case' hc => (try walk_at "side")))
  | ((with_reducible apply ev_neg); walk_at "ev")
  | ((with_reducible apply ev_abs); walk_at "ev")
  | ((with_reducible apply ev_intB); walk_at "ev")
  | ((with_reducible apply ev_tup); (case' h => walk_at "ed"); (case hl => rfl))
  | ((with_reducible apply ev_lst); (case' h => walk_at "ed"); (case hl => rfl))
  | ((with_reducible apply ev_ixT); (case' ha => walk_at "ev"); (case' hb => walk_at "ev"); (case h => rfl))
  | ((with_reducible apply ev_notV); walk_at "ev")
  | ((with_reducible apply ev_ixL); (case' ha => walk_at "ev"); (case hl => walk_at "ls"); (case' hb => walk_at "ev"); (case' h => (try rfl)))
  | ((with_reducible apply ev_isi); (case' h => walk_at "ev"); (case ht => rfl); (case hb => first | exact k_tt | exact k_ii | exact k_ib | exact k_bb | exact k_ll | exact k_ss))
  | ((with_reducible apply ev_andV); (case' h1 => walk_at "ev"); (case' h2 => (intro _; walk_at "ev")))
  | ((with_reducible apply ev_orV); (case' h1 => walk_at "ev"); (case' h2 => (intro _; walk_at "ev")))
  | ((with_reducible apply ev_lenL); (case' h => walk_at "ev"); (case hl => walk_at "ls"))
  | ((with_reducible apply ev_lenT); walk_at "ev")
  | ((with_reducible apply ev_eqI); (case' ha => walk_at "ev"); (case' hb => walk_at "ev"))
  | ((with_reducible apply ev_neI); (case' ha => walk_at "ev"); (case' hb => walk_at "ev"))
  | walk_at "ev2")
local macro_rules | `(tactic| walk_at "ls") => `(tactic| first
  | (with_reducible exact Ls.new)
  | ((with_reducible apply Ls.base); assumption)
  | exact Ls.own (j := 0) rfl | exact Ls.own (j := 1) rfl | exact Ls.own (j := 2) rfl | exact Ls.own (j := 3) rfl | exact Ls.own (j := 4) rfl | exact Ls.own (j := 5) rfl | exact Ls.own (j := 6) rfl)
set_option hygiene false in
local macro_rules | `(tactic| walk_at "ed") => `(tactic| first
  | (with_reducible exact ed_nil)
  | ((with_reducible apply ed_cons); (case' h => walk_at "ev"); (case' hr => walk_at "ed")))
set_option hygiene false in
local macro_rules | `(tactic| walk_at "ea") => `(tactic| first
  | (with_reducible exact ea_nil)
  | ((with_reducible apply ea_cons); (case' h => walk_at "ev"); (case' hr => walk_at "ea")))
set_option hygiene false in
local macro_rules | `(tactic| walk_at "et") => `(tactic| first
  | ((with_reducible apply et_test); walk_at "ev")
  | ((with_reducible apply et_B); walk_at "ev")
  | ((with_reducible apply et_not); walk_at "et")
  | ((with_reducible apply et_or); (case' h1 => walk_at "et"); (case' h2 => (intro _; walk_at "et")))
  | ((with_reducible apply et_and); (case' h1 => walk_at "et"); (case' h2 => (intro _; walk_at "et")))
  | (with_reducible exact et_yes))
/-! statements that only store -/
set_option hygiene false in
local macro_rules | `(tactic| walk_at "go") => `(tactic| ((repeat' first
  | (with_reducible refine s_seq ?_)
  | (with_reducible refine s_end ?_)
  | ((with_reducible apply s_asg); (case' h => walk_at "ev"))); (try dsimp only)))
set_option hygiene false in
local macro_rules | `(tactic| walk_at "if") => `(tactic| ((try (with_reducible refine s_seq ?_)); (with_reducible apply s_if); (case' h => walk_at "et")))
set_option hygiene false in
local macro_rules | `(tactic| walk_at "ret") => `(tactic| ((with_reducible apply s_ret); (case' h => walk_at "ev")))
local macro_rules | `(tactic| walk_at "side") => `(tactic| first | assumption | exact dd_ne _ _ | exact dd_pos _ _ | ((with_reducible apply m_nn) <;> assumption) | ((with_reducible apply m_nd) <;> assumption) | ((with_reducible apply m_dn) <;> assumption) | ((with_reducible apply m_dd) <;> assumption) | ((with_reducible apply dd_lt) <;> assumption) | ((with_reducible apply dn_lt) <;> assumption) | ((with_reducible apply dn_ne) <;> assumption))
/-! calls -/
set_option hygiene false in
local macro_rules | `(tactic| walk_at "ev2") => `(tactic| ((with_reducible apply ev_lowest); (case' h1 => walk_at "ev"); (case' h2 => walk_at "ev"); (case' hb => (try walk_at "side")); (case' hz => (try walk_at "side"))))
set_option hygiene false in
local macro_rules | `(tactic| walk_at "ev2") => `(tactic| ((with_reducible apply ev_plus); (case' h1 => walk_at "ev"); (case' h2 => walk_at "ev"); (case' hp => (try walk_at "side")); (case' hq => (try walk_at "side"))))
set_option hygiene false in
local macro_rules | `(tactic| walk_at "ev2") => `(tactic| ((with_reducible apply ev_minus); (case' h1 => walk_at "ev"); (case' h2 => walk_at "ev"); (case' hp => (try walk_at "side")); (case' hq => (try walk_at "side"))))
set_option hygiene false in
local macro_rules | `(tactic| walk_at "ev2") => `(tactic| ((with_reducible apply ev_times); (case' h1 => walk_at "ev"); (case' h2 => walk_at "ev"); (case' hp => (try walk_at "side")); (case' hq => (try walk_at "side"))))
set_option hygiene false in
local macro_rules | `(tactic| walk_at "ev2") => `(tactic| ((with_reducible apply ev_less); (case' h1 => walk_at "ev"); (case' h2 => walk_at "ev"); (case' hp => (try walk_at "side")); (case' hq => (try walk_at "side"))))
set_option hygiene false in
local macro_rules | `(tactic| walk_at "ev2") => `(tactic| ((with_reducible apply ev_over); (case' h1 => walk_at "ev"); (case' h2 => walk_at "ev"); (case' hp => (try walk_at "side")); (case' hq => (try walk_at "side")); (case' h0 => (try walk_at "side"))))
set_option hygiene false in
local macro_rules | `(tactic| walk_at "ev2") => `(tactic| ((with_reducible apply ev_cell); (case' h1 => walk_at "ev"); (case hl => walk_at "ls"); (case' h2 => walk_at "ev"); (case' hk => (try omega)); (case' hn => (try assumption))))
set_option hygiene false in
local macro_rules | `(tactic| walk_at "ev2") => `(tactic| ((with_reducible apply ev_low1); (case' h1 => walk_at "ev"); (case' h2 => walk_at "ev"); (case' hb => (try walk_at "side")); (case' hz => (try walk_at "side"))))
set_option hygiene false in
local macro_rules | `(tactic| walk_at "ev2") => `(tactic| ((with_reducible apply ev_whole); walk_at "ev"))
set_option hygiene false in
local macro_rules | `(tactic| walk_at "ev2") => `(tactic| ((with_reducible apply ev_frac); (case' h1 => walk_at "ev"); (case' h2 => walk_at "ev")))
set_option hygiene false in
local macro_rules | `(tactic| walk_at "ev2") => `(tactic| ((with_reducible apply ev_drawn); (case' h1 => walk_at "ev"); (case hl => walk_at "ls"); (case' h2 => walk_at "ev"); (case' hk => (try omega)); (case' hn => (try assumption))))
set_option hygiene false in
local macro_rules | `(tactic| walk_at "ev2") => `(tactic| ((with_reducible apply ev_sum1); (case' h1 => walk_at "ev"); (case' h2 => walk_at "ev"); (case' hp => (try walk_at "side")); (case' hq => (try walk_at "side"))))
set_option hygiene false in
local macro_rules | `(tactic| walk_at "ev2") => `(tactic| ((with_reducible apply ev_less1); (case' h1 => walk_at "ev"); (case' h2 => walk_at "ev"); (case' hp => (try walk_at "side")); (case' hq => (try walk_at "side"))))
local macro_rules | `(tactic| walk_at "s") => `(tactic| ((try dsimp only); (try (with_reducible refine s_seq ?_))))

/-! ### greenturns/parts.py -/
namespace My
open PySem PySem.Spec PyProof.Rows L2 GT
section
variable {P : Program} {w : World} {K : Fg} {mg : Str → Option Value} {base : Heap} {a : Adr}
def SpLow (K : Fg) : Sp := SpF K (fun x : Int × Int => [.dat (.int x.1), .dat (.int x.2)]) (fun x => x.2 ≠ 0 ∧ x.2.natAbs < 2 ^ 8999) (fun x => .dat (dQ (Rat.divInt x.1 x.2)))
theorem c_lowest (T : Txt K mg a) : Cal P w K mg base CX0 1 "lowest" ["top", "bottom"] (SpLow K) := by
  refine cal_ok T.f_lowest sc_lowest (fun _ => rfl) fun f cdv A outer s B vs R E x hr hp ha hR => ?_
  obtain ⟨t, b⟩ := x
  obtain ⟨hb0, hbz⟩ := hp
  refine ⟨_, (pss_cut (ps_if (pt_cmpR op_lt (pv 1) pe_int (nomark _)) (pss_cons (ps_set (i := 0) sc_lowest.nd rfl (Or.inl rfl) (pe_un un_neg (pv 0)))
  (pss_one (ps_set (i := 1) sc_lowest.nd rfl (Or.inl rfl) (pe_un un_neg (pv 1))))) pss_nil)
  (pss_cons (ps_set (i := 2) sc_lowest.nd rfl (Or.inl rfl) (pe_callB call_abs (by rfl) T.z_abs (by decide +kernel) (pa_cons (pv 0) pa_nil)))
  (pss_cons (ps_set (i := 3) sc_lowest.nd rfl (Or.inl rfl) (pv 1))
  (pss_cons (ps_while PassesOwn.never (pt_cmpR op_gt (pv 3) pe_int (nomark _))
    (pss_cons (ps_set (i := 4) sc_lowest.nd rfl (Or.inl rfl) (pe_op op_mod (pv 2) (pv 3)))
  (pss_cons (ps_set (i := 2) sc_lowest.nd rfl (Or.inl rfl) (pv 3))
  (pss_one (ps_set (i := 3) sc_lowest.nd rfl (Or.inl rfl) (pv 4))))))
  (pss_one (ps_ret (pe_tup (pa_cons (pe_op op_fdivW (pv 0) (pv 2)) (pa_cons (pe_op op_fdivW (pv 1) (pv 2)) pa_nil))))))))), ?_⟩
  try dsimp only [cxOf, Cx.nox, Cx.wish]
  cases ha with
  | cons h1 ha => cases ha with
  | cons h2 ha =>
  cases ha
  refine body_at (K := K) [.int t, .int b] (.cons h1 (.cons h2 .nil)) (L := [some (.int t), some (.int b), none, none, none]) ?_
  -- the sign goes to the top
  refine s_cut [] [some (.int (if b < 0 then -t else t)), some (.int (if b < 0 then -b else b)), none, none, none] ?_ ?_
  walk_at "if"
  · intro hc
    have hc' : b < 0 := of_decide_eq_true hc
    rw [if_pos hc', if_pos hc']
    walk_at "go"
    exact s_ok
  · intro hc
    have hc' : ¬ b < 0 := of_decide_eq_false hc
    rw [if_neg hc', if_neg hc']
    exact s_ok
  have hq : ∃ t' b' : Int, (if b < 0 then -t else t) = t' ∧ (if b < 0 then -b else b) = b' ∧ 0 < b' ∧ b'.natAbs = b.natAbs ∧ Rat.divInt t' b' = Rat.divInt t b := by
    by_cases h : b < 0
    · exact ⟨-t, -b, by rw [if_pos h], by rw [if_pos h], by omega, by omega, divInt_neg_neg t b⟩
    · exact ⟨t, b, by rw [if_neg h], by rw [if_neg h], by omega, rfl, rfl⟩
  obtain ⟨t', b', e1, e2, hb', hbb, he⟩ := hq
  rw [e1, e2]
  walk_at "go"
  refine s_while (β := Int × Int) ((if t' < 0 then -t' else t'), b') (fun _ => []) (fun z => [some (.int t'), some (.int b'), some (.int z.1), some (.int z.2), none]) (fun z => 0 ≤ z.1 ∧ 0 ≤ z.2 ∧ Nat.gcd z.1.natAbs z.2.natAbs = Nat.gcd t'.natAbs b'.natAbs ∧ (0 < z.1 ∨ 0 < z.2)) (fun z => z.2.toNat) ⟨by split <;> omega, by show 0 ≤ b'; omega, ?_, .inr hb'⟩ s_ok ?_
  · show Nat.gcd (if t' < 0 then -t' else t').natAbs b'.natAbs = _
    rw [abs_eq]
    rfl
  · rintro ⟨one, other⟩ ⟨i1, i2, i3, i4⟩
    dsimp only at i1 i2 i3 i4
    refine ⟨_, et_test (ev_rI0 (ev_var rfl) ev_int fun _ => .bl _), fun hc => ?_, fun hc => ?_⟩
    · have hc' : 0 < other := of_decide_eq_true hc
      walk_at "go"
      refine fun σ H s => ⟨(other, one % other), ⟨i2, Int.emod_nonneg _ (by omega), ?_, .inl hc'⟩, ?_, s.weak rfl (LeL.get (.same (.same (.same (.same (.none .nil))))))⟩
      · rw [← i3]
        exact gcd_step one other i1 hc'
      · have := Int.emod_lt_of_pos one hc'
        show (one % other).toNat < other.toNat
        omega
    · have hc' : ¬ 0 < other := of_decide_eq_false hc
      have e0 : other = 0 := by omega
      subst e0
      have hone : 0 < one := by omega
      have hg : one = (Nat.gcd t'.natAbs b'.natAbs : Nat) := by
        rw [← i3]
        show one = (Nat.gcd one.natAbs 0 : Nat)
        rw [Nat.gcd_zero_right]
        omega
      have hsz : one.natAbs < 2 ^ 8999 := by
        rw [hg, Int.natAbs_natCast]
        refine Nat.lt_of_le_of_lt (Nat.le_of_dvd ?_ (Nat.gcd_dvd_right _ _)) (hbb ▸ hbz)
        omega
      have hq := low_divInt t' b' hb'
      dsimp only
      refine s_ret (r := .dat (dQ (Rat.divInt t b))) ?_ ?_
      · rw [← he]
        unfold dQ
        rw [hq.1, hq.2, ← hg]
        walk_at "ev" <;> exact divW hone hsz (by omega)
      · exact hR
theorem ev_lowest {B : Hp} {O : Own} {L : Sl} {ta tb : TE} {E : XK} {t b : Int} (h1 : Ev K B O L ta (.dat (.int t))) (h2 : Ev K B O L tb (.dat (.int b))) (hb : b ≠ 0) (hz : b.natAbs < 2 ^ 8999) : Ev K B O L (tCall (SpLow K) [] E (tCons ta (tCons tb tNil))) (.dat (dQ (Rat.divInt t b))) :=
  ev_call (t, b) (ea_cons h1 (ea_cons h2 ea_nil)) ⟨hb, hz⟩ (.cons .dat (.cons .dat .nil))
def SpPlus (K : Fg) : Sp := SpF K (fun x : Rat × Rat => [.dat (dQ x.1), .dat (dQ x.2)]) (fun x => Sz 4000 x.1 ∧ Sz 4000 x.2) (fun x => .dat (dQ (x.1 + x.2)))
theorem c_plus (T : Txt K mg a) : Cal P w K mg base CX0 2 "plus" ["one", "other"] (SpPlus K) := by
  refine cal_ok T.f_plus sc_plus (fun _ => rfl) fun f cdv A outer s B vs R E x hr hp ha hR => ?_
  obtain ⟨p, q⟩ := x
  dsimp only at hp hR ha
  obtain ⟨hp1, hp2⟩ := hp
  refine ⟨_, (pss_one (ps_ret (Cal.pe (c_lowest T) hr pass0 (pa_cons (pe_op op_add (pe_op op_mulW (pe_ix (r := rIxT K) ix_tup (pv 0) pe_int (fun _ _ => rfl)) (pe_ix (r := rIxT K) ix_tup (pv 1) pe_int (fun _ _ => rfl))) (pe_op op_mulW (pe_ix (r := rIxT K) ix_tup (pv 1) pe_int (fun _ _ => rfl)) (pe_ix (r := rIxT K) ix_tup (pv 0) pe_int (fun _ _ => rfl)))) (pa_cons (pe_op op_mulW (pe_ix (r := rIxT K) ix_tup (pv 0) pe_int (fun _ _ => rfl)) (pe_ix (r := rIxT K) ix_tup (pv 1) pe_int (fun _ _ => rfl))) pa_nil))))), ?_⟩
  try dsimp only [cxOf, Cx.nox, Cx.wish]
  cases ha with
  | cons h1 ha => cases ha with
  | cons h2 ha =>
  cases ha
  refine body_at (K := K) [dQ p, dQ q] (.cons h1 (.cons h2 .nil)) (L := [some (dQ p), some (dQ q)]) ?_
  walk_at "ret"
  rw [add_divInt]
  exact hR
theorem ev_plus {B : Hp} {O : Own} {L : Sl} {ta tb : TE} {E : XK} {p q : Rat} (h1 : Ev K B O L ta (.dat (dQ p))) (h2 : Ev K B O L tb (.dat (dQ q))) (hp : Sz 4000 p) (hq : Sz 4000 q) : Ev K B O L (tCall (SpPlus K) [] E (tCons ta (tCons tb tNil))) (.dat (dQ (p + q))) :=
  ev_call (p, q) (ea_cons h1 (ea_cons h2 ea_nil)) ⟨hp, hq⟩ (.cons .dat (.cons .dat .nil))
def SpLess (K : Fg) : Sp := SpF K (fun x : Rat × Rat => [.dat (dQ x.1), .dat (dQ x.2)]) (fun x => Sz 4000 x.1 ∧ Sz 4000 x.2) (fun x => .dat (.bl (decide (x.1 < x.2))))
theorem c_less (T : Txt K mg a) : Cal P w K mg base CX0 1 "less" ["one", "other"] (SpLess K) := by
  refine cal_ok T.f_less sc_less (fun _ => rfl) fun f cdv A outer s B vs R E x hr hp ha hR => ?_
  obtain ⟨p, q⟩ := x
  dsimp only at hp hR ha
  obtain ⟨hp1, hp2⟩ := hp
  refine ⟨_, (pss_one (ps_ret (pe_cmpR op_lt (pe_op op_mulW (pe_ix (r := rIxT K) ix_tup (pv 0) pe_int (fun _ _ => rfl)) (pe_ix (r := rIxT K) ix_tup (pv 1) pe_int (fun _ _ => rfl))) (pe_op op_mulW (pe_ix (r := rIxT K) ix_tup (pv 1) pe_int (fun _ _ => rfl)) (pe_ix (r := rIxT K) ix_tup (pv 0) pe_int (fun _ _ => rfl))) (nomark _)))), ?_⟩
  try dsimp only [cxOf, Cx.nox, Cx.wish]
  cases ha with
  | cons h1 ha => cases ha with
  | cons h2 ha =>
  cases ha
  refine body_at (K := K) [dQ p, dQ q] (.cons h1 (.cons h2 .nil)) (L := [some (dQ p), some (dQ q)]) ?_
  walk_at "ret"
  rw [lt_cross]
  exact hR
theorem ev_less {B : Hp} {O : Own} {L : Sl} {ta tb : TE} {E : XK} {p q : Rat} (h1 : Ev K B O L ta (.dat (dQ p))) (h2 : Ev K B O L tb (.dat (dQ q))) (hp : Sz 4000 p) (hq : Sz 4000 q) : Ev K B O L (tCall (SpLess K) [] E (tCons ta (tCons tb tNil))) (.dat (.bl (decide (p < q)))) :=
  ev_call (p, q) (ea_cons h1 (ea_cons h2 ea_nil)) ⟨hp, hq⟩ (.cons .dat (.cons .dat .nil))
theorem ev_nought (T : Txt K mg a) {B : Hp} {O : Own} {L : Sl} : Ev K B O L (tC (.ref a.a_NOUGHT)) (.dat (dQ 0)) := Ev.isD (ev_globT T.t_NOUGHT) rfl
end
end My

/-! ### the laws' own reckoning -/
namespace My
open PySem PySem.Spec PyProof.Rows L2 GT
theorem divInt_eq_of {t b : Int} {q : Rat} (h : Rat.divInt t b = q) : dQ (Rat.divInt t b) = dQ q := by rw [h]
section
variable {P : Program} {w : World} {K : Fg} {mg : Str → Option Value} {base : Heap} {a : Adr}
def SpCell (K : Fg) : Sp := SpF K (fun x : List Int × Int => [.lst (x.1.map .int), .dat (.int x.2)]) (fun x => 0 ≤ x.2 ∧ x.1.length ≤ 63) (fun x => .dat (.int (cell x.1 x.2)))
theorem c__law_cell_at (T : Txt K mg a) : Cal P w K mg base CX0 1 "_law_cell_at" ["script", "k"] (SpCell K) := by
  refine cal_ok T.f__law_cell_at sc__law_cell_at (fun _ => rfl) fun f cdv A outer s B vs R E x hr hp ha hR => ?_
  obtain ⟨ns, k⟩ := x
  dsimp only at hp hR ha
  obtain ⟨hk, hn⟩ := hp
  refine ⟨_, (pss_cons (ps_if (pt_cmpR op_lt (pv 1) (pe_callB call_len_seq (by rfl) T.z_len (by decide +kernel) (pa_cons (pv 0) pa_nil)) (nomark _)) (pss_one (ps_ret (pe_ix (r := rIxL K) ix_list (pv 0) (pv 1) (fun _ _ => rfl)))) pss_nil)
  (pss_one (ps_ret pe_int))), ?_⟩
  try dsimp only [cxOf, Cx.nox, Cx.wish]
  cases ha with
  | cons h1 ha => cases ha with
  | cons h2 ha =>
  cases ha
  obtain ⟨l, xs, rfl, hl1, hl2⟩ := h1
  have hl : LsR K B (.ref l) (ns.map .int) := ⟨l, xs, rfl, hl1, hl2⟩
  refine body_at (K := K) [.adr l, .int k] (.cons (.adr l) (.cons h2 .nil)) (L := [some (.adr l), some (.int k)]) ?_
  walk_at "if"
  · intro hc
    have hc' : k < (ns.length : Int) := by
      have := of_decide_eq_true hc
      simpa using this
    refine s_ret (r := .dat (.int (cell ns k))) (ev_ixL (ev_var rfl) (Ls.base hl) (ev_var rfl) ?_) ?_
    · have h3 : k.toNat < ns.length := by omega
      unfold atI
      have h4 : ixN (ns.map Dt.int).length k = some k.toNat := by
        have := ixN_nat (n := (ns.map Dt.int).length) (j := k.toNat) (by simpa using h3)
        rwa [Int.toNat_of_nonneg hk] at this
      rw [h4]
      show (ns.map Dt.int)[k.toNat]? = _
      unfold cell
      rw [List.getElem?_map, List.getElem?_eq_getElem h3, List.getD_eq_getElem?_getD, List.getElem?_eq_getElem h3]
      rfl
    · exact hR
  · intro hc
    have hc' : ¬ k < (ns.length : Int) := by
      have := of_decide_eq_false hc
      simpa using this
    walk_at "go"
    refine s_ret (r := .dat (.int (cell ns k))) (ev_int.isD ?_) ?_
    · unfold cell
      rw [List.getD_eq_getElem?_getD, List.getElem?_eq_none (by omega)]
      rfl
    · exact hR
theorem ev_cell {B : Hp} {O : Own} {L : Sl} {ta tb : TE} {E : XK} {r : Rs} {ns : List Int} {k : Int} (h1 : Ev K B O L ta r) (hl : Ls K B O r (ns.map .int)) (h2 : Ev K B O L tb (.dat (.int k))) (hk : 0 ≤ k) (hn : ns.length ≤ 63) : Ev K B O L (tCall (SpCell K) [] E (tCons ta (tCons tb tNil))) (.dat (.int (cell ns k))) :=
  ev_call (ns, k) (ea_cons h1 (ea_cons h2 ea_nil)) ⟨hk, hn⟩ (.cons (.lst hl) (.cons .dat .nil))
def SpLow1 (K : Fg) : Sp := SpF K (fun x : Int × Int => [.dat (.int x.1), .dat (.int x.2)]) (fun x => 0 < x.2 ∧ x.2.natAbs < 2 ^ 8999) (fun x => .dat (dQ (Rat.divInt x.1 x.2)))
theorem c__law_low (T : Txt K mg a) : Cal P w K mg base CX0 1 "_law_low" ["top", "bottom"] (SpLow1 K) := by
  refine cal_ok T.f__law_low sc__law_low (fun _ => rfl) fun f cdv A outer s B vs R E x hr hp ha hR => ?_
  obtain ⟨t', b'⟩ := x
  dsimp only at hp hR ha
  obtain ⟨hb', hbz⟩ := hp
  refine ⟨_, (pss_cons (ps_set (i := 2) sc__law_low.nd rfl (Or.inl rfl) (pe_callB call_abs (by rfl) T.z_abs (by decide +kernel) (pa_cons (pv 0) pa_nil)))
  (pss_cons (ps_set (i := 3) sc__law_low.nd rfl (Or.inl rfl) (pv 1))
  (pss_cons (ps_while PassesOwn.never (pt_cmpR op_gt (pv 3) pe_int (nomark _))
    (pss_cons (ps_set (i := 4) sc__law_low.nd rfl (Or.inl rfl) (pe_op op_mod (pv 2) (pv 3)))
  (pss_cons (ps_set (i := 2) sc__law_low.nd rfl (Or.inl rfl) (pv 3))
  (pss_one (ps_set (i := 3) sc__law_low.nd rfl (Or.inl rfl) (pv 4))))))
  (pss_one (ps_ret (pe_tup (pa_cons (pe_op op_fdivW (pv 0) (pv 2)) (pa_cons (pe_op op_fdivW (pv 1) (pv 2)) pa_nil)))))))), ?_⟩
  try dsimp only [cxOf, Cx.nox, Cx.wish]
  cases ha with
  | cons h1 ha => cases ha with
  | cons h2 ha =>
  cases ha
  refine body_at (K := K) [.int t', .int b'] (.cons h1 (.cons h2 .nil)) (L := [some (.int t'), some (.int b'), none, none, none]) ?_
  walk_at "go"
  refine s_while (β := Int × Int) ((if t' < 0 then -t' else t'), b') (fun _ => []) (fun z => [some (.int t'), some (.int b'), some (.int z.1), some (.int z.2), none]) (fun z => 0 ≤ z.1 ∧ 0 ≤ z.2 ∧ Nat.gcd z.1.natAbs z.2.natAbs = Nat.gcd t'.natAbs b'.natAbs ∧ (0 < z.1 ∨ 0 < z.2)) (fun z => z.2.toNat) ⟨by split <;> omega, by show 0 ≤ b'; omega, ?_, .inr hb'⟩ s_ok ?_
  · show Nat.gcd (if t' < 0 then -t' else t').natAbs b'.natAbs = _
    rw [abs_eq]
    rfl
  · rintro ⟨one, other⟩ ⟨i1, i2, i3, i4⟩
    dsimp only at i1 i2 i3 i4
    refine ⟨_, et_test (ev_rI0 (ev_var rfl) ev_int fun _ => .bl _), fun hc => ?_, fun hc => ?_⟩
    · have hc' : 0 < other := of_decide_eq_true hc
      walk_at "go"
      refine fun σ H s => ⟨(other, one % other), ⟨i2, Int.emod_nonneg _ (by omega), ?_, .inl hc'⟩, ?_, s.weak rfl (LeL.get (.same (.same (.same (.same (.none .nil))))))⟩
      · rw [← i3]
        exact gcd_step one other i1 hc'
      · have := Int.emod_lt_of_pos one hc'
        show (one % other).toNat < other.toNat
        omega
    · have hc' : ¬ 0 < other := of_decide_eq_false hc
      have e0 : other = 0 := by omega
      subst e0
      have hone : 0 < one := by omega
      have hg : one = (Nat.gcd t'.natAbs b'.natAbs : Nat) := by
        rw [← i3]
        show one = (Nat.gcd one.natAbs 0 : Nat)
        rw [Nat.gcd_zero_right]
        omega
      have hsz : one.natAbs < 2 ^ 8999 := by
        rw [hg, Int.natAbs_natCast]
        refine Nat.lt_of_le_of_lt (Nat.le_of_dvd ?_ (Nat.gcd_dvd_right _ _)) hbz
        omega
      have hq := low_divInt t' b' hb'
      dsimp only
      refine s_ret (r := .dat (dQ (Rat.divInt t' b'))) ?_ ?_
      · unfold dQ
        rw [hq.1, hq.2, ← hg]
        walk_at "ev" <;> exact divW hone hsz (by omega)
      · exact hR
theorem ev_low1 {B : Hp} {O : Own} {L : Sl} {ta tb : TE} {E : XK} {t b : Int} (h1 : Ev K B O L ta (.dat (.int t))) (h2 : Ev K B O L tb (.dat (.int b))) (hb : 0 < b) (hz : b.natAbs < 2 ^ 8999) : Ev K B O L (tCall (SpLow1 K) [] E (tCons ta (tCons tb tNil))) (.dat (dQ (Rat.divInt t b))) :=
  ev_call (t, b) (ea_cons h1 (ea_cons h2 ea_nil)) ⟨hb, hz⟩ (.cons .dat (.cons .dat .nil))
def SpWhole (K : Fg) : Sp := SpF K (fun x : Int => [.dat (.int x)]) (fun x => True) (fun x => .dat (.bl true))
theorem c__law_whole (T : Txt K mg a) : Cal P w K mg base CX0 1 "_law_whole" ["found"] (SpWhole K) := by
  refine cal_ok T.f__law_whole sc__law_whole (fun _ => rfl) fun f cdv A outer s B vs R E x hr hp ha hR => ?_
  refine ⟨_, (pss_one (ps_ret (pe_and (pe_callB call_isi (by rfl) T.z_isinstance (by decide +kernel) (pa_cons (pv 0) (pa_cons (pe_bltn (v := .ty "int") (by rfl) T.z_int (by decide +kernel) rfl) pa_nil))) (pe_one (pe_not (pe_callB call_isi (by rfl) T.z_isinstance (by decide +kernel) (pa_cons (pv 0) (pa_cons (pe_bltn (v := .ty "bool") (by rfl) T.z_bool (by decide +kernel) rfl) pa_nil)))))))), ?_⟩
  try dsimp only [cxOf, Cx.nox, Cx.wish]
  cases ha with
  | cons h1 ha =>
  cases ha
  refine body_at (K := K) [.int x] (.cons h1 .nil) (L := [some (.int x)]) ?_
  refine s_ret (r := .dat (.bl true)) (ev_andV (a := true) (b := !false) (ev_isi (ev_var rfl) rfl (by decide +kernel)) fun _ => ev_notV (ev_isi (ev_var rfl) rfl (by decide +kernel))) ?_
  exact hR
theorem ev_whole {B : Hp} {O : Own} {L : Sl} {ta : TE} {E : XK} {t : Int} (h1 : Ev K B O L ta (.dat (.int t))) : Ev K B O L (tCall (SpWhole K) [] E (tCons ta tNil)) (.dat (.bl true)) :=
  ev_call t (ea_cons h1 ea_nil) trivial (.cons .dat .nil)
def SpFrac (K : Fg) : Sp := SpF K (fun x : Rat × Rat => [.dat (dQ x.1), .dat (dQ x.2)]) (fun x => True) (fun x => .dat (.bl (decide (x.1 = x.2))))
theorem c__law_fraction (T : Txt K mg a) : Cal P w K mg base CX0 2 "_law_fraction" ["found", "due"] (SpFrac K) := by
  refine cal_ok T.f__law_fraction sc__law_fraction (fun _ => rfl) fun f cdv A outer s B vs R E x hr hp ha hR => ?_
  obtain ⟨p, q⟩ := x
  dsimp only at hp hR ha
  refine ⟨_, (pss_cons (ps_if (PW.pt (pw_or (pt_not (pt_val (pe_callB call_isi (by rfl) T.z_isinstance (by decide +kernel) (pa_cons (pv 0) (pa_cons (pe_bltn (v := .ty "tuple") (by rfl) T.z_tuple (by decide +kernel) rfl) pa_nil))))) (pw_or (pt_cmpR op_ne (pe_callB call_len_seq (by rfl) T.z_len (by decide +kernel) (pa_cons (pv 0) pa_nil)) pe_int (nomark _)) (pw_or (pt_not (pt_val (Cal.pe (c__law_whole T) hr pass0 (pa_cons (pe_ix (r := rIxT K) ix_tup (pv 0) pe_int (fun _ _ => rfl)) pa_nil)))) (pw_or1 (pt_not (pt_val (Cal.pe (c__law_whole T) hr pass0 (pa_cons (pe_ix (r := rIxT K) ix_tup (pv 0) pe_int (fun _ _ => rfl)) pa_nil))))))))) (pss_one (ps_ret pe_bl)) pss_nil)
  (pss_one (ps_ret (pe_cmpR (r := rEqD K) (op_eqD hr.units) (pv 0) (pv 1) (nomark _))))), ?_⟩
  try dsimp only [cxOf, Cx.nox, Cx.wish]
  cases ha with
  | cons h1 ha => cases ha with
  | cons h2 ha =>
  cases ha
  refine body_at (K := K) [dQ p, dQ q] (.cons h1 (.cons h2 .nil)) (L := [some (dQ p), some (dQ q)]) ?_
  walk_at "if"
  · intro h
    exact absurd (show false = true from h) (by decide)
  · intro _
    walk_at "go"
    refine s_ret (ev_eqD (ev_var rfl) (ev_var rfl) (okD_Q p) (okD_Q q)) ?_
    rw [eqD_Q]
    exact hR
theorem ev_frac {B : Hp} {O : Own} {L : Sl} {ta tb : TE} {E : XK} {p q : Rat} (h1 : Ev K B O L ta (.dat (dQ p))) (h2 : Ev K B O L tb (.dat (dQ q))) : Ev K B O L (tCall (SpFrac K) [] E (tCons ta (tCons tb tNil))) (.dat (.bl (decide (p = q)))) :=
  ev_call (p, q) (ea_cons h1 (ea_cons h2 ea_nil)) trivial (.cons .dat (.cons .dat .nil))
def SpSum1 (K : Fg) : Sp := SpF K (fun x : Rat × Rat => [.dat (dQ x.1), .dat (dQ x.2)]) (fun x => Sz 4000 x.1 ∧ Sz 4000 x.2) (fun x => .dat (dQ (x.1 + x.2)))
theorem c__law_sum (T : Txt K mg a) : Cal P w K mg base CX0 2 "_law_sum" ["one", "other"] (SpSum1 K) := by
  refine cal_ok T.f__law_sum sc__law_sum (fun _ => rfl) fun f cdv A outer s B vs R E x hr hp ha hR => ?_
  obtain ⟨p, q⟩ := x
  dsimp only at hp hR ha
  obtain ⟨hp1, hp2⟩ := hp
  refine ⟨_, (pss_one (ps_ret (Cal.pe (c__law_low T) hr pass0 (pa_cons (pe_op op_add (pe_op op_mulW (pe_ix (r := rIxT K) ix_tup (pv 0) pe_int (fun _ _ => rfl)) (pe_ix (r := rIxT K) ix_tup (pv 1) pe_int (fun _ _ => rfl))) (pe_op op_mulW (pe_ix (r := rIxT K) ix_tup (pv 1) pe_int (fun _ _ => rfl)) (pe_ix (r := rIxT K) ix_tup (pv 0) pe_int (fun _ _ => rfl)))) (pa_cons (pe_op op_mulW (pe_ix (r := rIxT K) ix_tup (pv 0) pe_int (fun _ _ => rfl)) (pe_ix (r := rIxT K) ix_tup (pv 1) pe_int (fun _ _ => rfl))) pa_nil))))), ?_⟩
  try dsimp only [cxOf, Cx.nox, Cx.wish]
  cases ha with
  | cons h1 ha => cases ha with
  | cons h2 ha =>
  cases ha
  refine body_at (K := K) [dQ p, dQ q] (.cons h1 (.cons h2 .nil)) (L := [some (dQ p), some (dQ q)]) ?_
  walk_at "ret"
  rw [add_divInt]
  exact hR
theorem ev_sum1 {B : Hp} {O : Own} {L : Sl} {ta tb : TE} {E : XK} {p q : Rat} (h1 : Ev K B O L ta (.dat (dQ p))) (h2 : Ev K B O L tb (.dat (dQ q))) (hp : Sz 4000 p) (hq : Sz 4000 q) : Ev K B O L (tCall (SpSum1 K) [] E (tCons ta (tCons tb tNil))) (.dat (dQ (p + q))) :=
  ev_call (p, q) (ea_cons h1 (ea_cons h2 ea_nil)) ⟨hp, hq⟩ (.cons .dat (.cons .dat .nil))
def SpLess1 (K : Fg) : Sp := SpF K (fun x : Rat × Rat => [.dat (dQ x.1), .dat (dQ x.2)]) (fun x => Sz 4000 x.1 ∧ Sz 4000 x.2) (fun x => .dat (.bl (decide (x.1 < x.2))))
theorem c__law_less (T : Txt K mg a) : Cal P w K mg base CX0 1 "_law_less" ["one", "other"] (SpLess1 K) := by
  refine cal_ok T.f__law_less sc__law_less (fun _ => rfl) fun f cdv A outer s B vs R E x hr hp ha hR => ?_
  obtain ⟨p, q⟩ := x
  dsimp only at hp hR ha
  obtain ⟨hp1, hp2⟩ := hp
  refine ⟨_, (pss_one (ps_ret (pe_cmpR op_lt (pe_op op_mulW (pe_ix (r := rIxT K) ix_tup (pv 0) pe_int (fun _ _ => rfl)) (pe_ix (r := rIxT K) ix_tup (pv 1) pe_int (fun _ _ => rfl))) (pe_op op_mulW (pe_ix (r := rIxT K) ix_tup (pv 1) pe_int (fun _ _ => rfl)) (pe_ix (r := rIxT K) ix_tup (pv 0) pe_int (fun _ _ => rfl))) (nomark _)))), ?_⟩
  try dsimp only [cxOf, Cx.nox, Cx.wish]
  cases ha with
  | cons h1 ha => cases ha with
  | cons h2 ha =>
  cases ha
  refine body_at (K := K) [dQ p, dQ q] (.cons h1 (.cons h2 .nil)) (L := [some (dQ p), some (dQ q)]) ?_
  walk_at "ret"
  rw [lt_cross]
  exact hR
theorem ev_less1 {B : Hp} {O : Own} {L : Sl} {ta tb : TE} {E : XK} {p q : Rat} (h1 : Ev K B O L ta (.dat (dQ p))) (h2 : Ev K B O L tb (.dat (dQ q))) (hp : Sz 4000 p) (hq : Sz 4000 q) : Ev K B O L (tCall (SpLess1 K) [] E (tCons ta (tCons tb tNil))) (.dat (.bl (decide (p < q)))) :=
  ev_call (p, q) (ea_cons h1 (ea_cons h2 ea_nil)) ⟨hp, hq⟩ (.cons .dat (.cons .dat .nil))
end
end My

/-! ### the laws' own plans -/
namespace My
open PySem PySem.Spec PyProof.Rows L2 GT
section
variable {P : Program} {w : World} {K : Fg} {mg : Str → Option Value} {base : Heap} {a : Adr}
theorem bits_enc (n : Int) (s : Nat) : (bitsN n (s + 1)).map Dt.int = if decide (n / (2 : Int) ^ s % 2 = 1) = true then (bitsN n s).map Dt.int ++ [.int s] else (bitsN n s).map Dt.int := by
  rw [bitsN_succ]
  by_cases h : n / (2 : Int) ^ s % 2 = 1
  · rw [if_pos h, if_pos (decide_eq_true h), List.map_append]
    rfl
  · rw [if_neg h, if_neg (by rw [decide_eq_false h]; decide)]
theorem bitsN_len (n : Int) (s : Nat) : (bitsN n s).length ≤ s := by
  unfold bitsN
  rw [List.length_map]
  exact Nat.le_trans (List.length_filter_le _ _) (by rw [List.length_range]; exact Nat.le_refl _)
def SpBits (K : Fg) : Sp := SpF K (fun x : Int × Nat => [.dat (.int x.1), .dat (.int x.2)]) (fun x => x.2 ≤ 64) (fun x => .dat (dG (bitsN x.1 x.2)))
theorem c__law_bits (T : Txt K mg a) : Cal P w K mg base CX0 1 "_law_bits" ["number", "streams"] (SpBits K) := by
  refine cal_ok T.f__law_bits sc__law_bits (fun _ => rfl) fun f cdv A outer s B vs R E x hr hp ha hR => ?_
  obtain ⟨n, m⟩ := x
  dsimp only at hp hR ha
  refine ⟨_, (pss_cons (ps_set (i := 2) sc__law_bits.nd rfl (Or.inl rfl) (pe_lst pa_nil))
  (pss_cons (ps_for PassesOwn.never rfl (pi_range1 (by rfl) T.z_range (pa_cons (pv 1) pa_nil)) (pg_name (i := 3) sc__law_bits.nd rfl (Or.inl rfl))
    (pss_cut (ps_if (pt_cmpR op_eq (pe_op op_mod (pv 0) pe_int) pe_int (nomark _)) (pss_one (ps_expr (pe_bm PySem.F.plainAttrs_list PySem.F.slot_list_append PySem.F.type_list_append mt_append (pv 2) (pa_cons (pv 3) pa_nil)))) pss_nil)
  (pss_one (ps_set (i := 0) sc__law_bits.nd rfl (Or.inl rfl) (pe_op op_fdivW (pv 0) pe_int)))))
  (pss_one (ps_ret (pe_callTy call_tuple_of (by rfl) T.z_tuple (by decide +kernel) (pa_cons (pv 2) pa_nil)))))), ?_⟩
  try dsimp only [cxOf, Cx.nox, Cx.wish]
  cases ha with
  | cons h1 ha => cases ha with
  | cons h2 ha =>
  cases ha
  refine body_at (K := K) [.int n, .int m] (.cons h1 (.cons h2 .nil)) (L := [some (.int n), some (.int m), none, none]) ?_
  (walk_at "s"); refine s_asgN (ob := .lst []) ?_ fun p => ?_
  · walk_at "ev"
  (walk_at "s"); refine s_forRA (n := m) ?_ (by omega) (fun i => [(p, .lst ((bitsN n i).map .int))]) (fun i => [some (.int (n / (2 : Int) ^ i)), some (.int m), some (.adr p), none]) (s_okL (by rw [Int.pow_zero, Int.ediv_one]; rfl)) ?_ ?_
  · walk_at "ed"
  · intro i hi
    refine s_cut [(p, .lst ((bitsN n (i + 1)).map .int))] [some (.int (n / (2 : Int) ^ i)), some (.int m), some (.adr p), some (.int i)] ?_ ?_
    · rw [bits_enc]
      walk_at "if"
      · omega
      · intro hc
        refine s_app (j := 0) (ev_var rfl) rfl (ev_var rfl) ?_ ?_
        · rw [List.length_map]
          have := bitsN_len n i
          omega
        · rw [if_pos hc]
          exact s_ok
      · intro hc
        rw [if_neg (by rw [hc]; decide)]
        exact s_ok
    · rw [← half_pow]
      walk_at "go"
      · exact divK (by decide) (by decide)
      · exact s_okW (.same (.same (.same (.none .nil))))
  · (walk_at "s"); refine s_ret (ev_tupL (ds := (bitsN n m).map .int) (ev_var rfl) (Ls.own (j := 0) rfl)) ?_
    exact hR
theorem ev_bits {B : Hp} {O : Own} {L : Sl} {ta tb : TE} {E : XK} {n : Int} {m : Nat} (h1 : Ev K B O L ta (.dat (.int n))) (h2 : Ev K B O L tb (.dat (.int m))) (hm : m ≤ 64) : Ev K B O L (tCall (SpBits K) [] E (tCons ta (tCons tb tNil))) (.dat (dG (bitsN n m))) :=
  ev_call (n, m) (ea_cons h1 (ea_cons h2 ea_nil)) hm (.cons .dat (.cons .dat .nil))
def SpPlan (K : Fg) : Sp := SpF K (fun x : List Int × Int × Nat × Nat => [.lst (x.1.map .int), .dat (.int x.2.1), .dat (.int x.2.2.1), .dat (.int x.2.2.2)]) (fun x => x.1.length ≤ 63 ∧ 0 ≤ x.2.1 ∧ x.2.2.1 ≤ 64 ∧ x.2.2.2 ≤ 64) (fun x => .new (.lst ((planOf x.1 x.2.1 x.2.2.1 x.2.2.2).map dPh)))
theorem c__law_plan (T : Txt K mg a) : Cal P w K mg base CX0 2 "_law_plan" ["script", "start", "streams", "phases"] (SpPlan K) := by
  refine cal_ok T.f__law_plan sc__law_plan (fun _ => rfl) fun f cdv A outer s B vs R E x hr hp ha hR => ?_
  obtain ⟨ns, st, m, n⟩ := x
  dsimp only at hp hR ha
  obtain ⟨hn, hs, hm, hk⟩ := hp
  refine ⟨_, (pss_cons (ps_set (i := 4) sc__law_plan.nd rfl (Or.inl rfl) (pe_lst pa_nil))
  (pss_cons (ps_for PassesOwn.never rfl (pi_range1 (by rfl) T.z_range (pa_cons (pv 3) pa_nil)) (pg_name (i := 5) sc__law_plan.nd rfl (Or.inl rfl))
    (pss_cons (ps_set (i := 6) sc__law_plan.nd rfl (Or.inl rfl) (Cal.pe (c__law_cell_at T) hr pass0 (pa_cons (pv 0) (pa_cons (pe_op op_add (pe_op op_add (pv 1) (pe_op op_mulW pe_int (pv 5))) pe_int) pa_nil))))
  (pss_cons (ps_set (i := 7) sc__law_plan.nd rfl (Or.inl rfl) (Cal.pe (c__law_low T) hr pass0 (pa_cons (pe_op op_add pe_int (pe_op op_mod (pv 6) pe_int)) (pa_cons (pe_op op_add pe_int (pe_op op_mod (pe_op op_fdivW (pv 6) pe_int) pe_int)) pa_nil))))
  (pss_one (ps_expr (pe_bm PySem.F.plainAttrs_list PySem.F.slot_list_append PySem.F.type_list_append mt_append (pv 4) (pa_cons (pe_tup (pa_cons (Cal.pe (c__law_bits T) hr pass0 (pa_cons (Cal.pe (c__law_cell_at T) hr pass0 (pa_cons (pv 0) (pa_cons (pe_op op_add (pv 1) (pe_op op_mulW pe_int (pv 5))) pa_nil))) (pa_cons (pv 2) pa_nil))) (pa_cons (pv 7) pa_nil))) pa_nil)))))))
  (pss_one (ps_ret (pv 4))))), ?_⟩
  try dsimp only [cxOf, Cx.nox, Cx.wish]
  cases ha with
  | cons h1 ha => cases ha with
  | cons h2 ha => cases ha with
  | cons h3 ha => cases ha with
  | cons h4 ha =>
  cases ha
  obtain ⟨l, xs, rfl, hl1, hl2⟩ := h1
  have hl : LsR K B (.ref l) (ns.map .int) := ⟨l, xs, rfl, hl1, hl2⟩
  refine body_at (K := K) [.adr l, .int st, .int m, .int n] (.cons (.adr l) (.cons h2 (.cons h3 (.cons h4 .nil)))) (L := [some (.adr l), some (.int st), some (.int m), some (.int n), none, none, none, none]) ?_
  (walk_at "s"); refine s_asgN (ob := .lst []) ?_ fun p => ?_
  · walk_at "ev"
  (walk_at "s"); refine s_forRA (n := n) ?_ (by omega) (fun i => [(p, .lst ((planOf ns st m i).map dPh))]) (fun i => [some (.adr l), some (.int st), some (.int m), some (.int n), some (.adr p), none, none, none]) s_ok ?_ ?_
  · walk_at "ed"
  · intro i hi
    have n1 := Int.emod_nonneg (cell ns (st + 2 * (i : Int) + 1) / 20) (show (12 : Int) ≠ 0 by decide)
    have n2 := Int.emod_lt_of_pos (cell ns (st + 2 * (i : Int) + 1) / 20) (show (0 : Int) < 12 by decide)
    have c2 : CMulW 2 (i : Int) := mulW (a := 2) (b := 64) (by decide) (by omega) (by omega)
    have c8 : (1 + cell ns (st + 2 * (i : Int) + 1) / 20 % 12).natAbs < 2 ^ 8999 := Nat.lt_of_lt_of_le (show _ < 2 ^ 4 by omega) (Nat.pow_le_pow_right (by omega) (by omega))
    have c3 : (0 : Int) < 20 := by decide
    have c4 : (0 : Int) < 12 := by decide
    have c5 : CDivW (cell ns (st + 2 * (i : Int) + 1)) 20 := divK (by decide) (by decide)
    walk_at "go"
    any_goals omega
    refine s_app (j := 0) (d := dPh (phaseOf ns st m i)) (ev_var rfl) rfl ?_ ?_ ?_
    · refine ev_tup (ds := [dG (phaseOf ns st m i).1, dQ (phaseOf ns st m i).2]) (ed_cons (ev_bits (ev_cell (ev_var rfl) (Ls.base hl) ?_ ?_ hn) (ev_var rfl) (by omega)) (ed_cons (ev_var rfl) ed_nil))
      · walk_at "ev"
      · omega
    · rw [List.length_map, planOf_len]
      omega
    · refine s_okO' ?_ ?_
      · rw [planOf_succ, List.map_append]
        rfl
      · exact .same (.same (.same (.same (.same (.none (.none (.none .nil)))))))
  · (walk_at "s"); refine s_retO (j := 0) (ev_var rfl) rfl ?_
    exact hR
theorem ev_plan {B : Hp} {O : Own} {L : Sl} {ta tb tc td : TE} {E : XK} {r : Rs} {ns : List Int} {st : Int} {m n : Nat} (h1 : Ev K B O L ta r) (hl : Ls K B O r (ns.map .int)) (h2 : Ev K B O L tb (.dat (.int st))) (h3 : Ev K B O L tc (.dat (.int m))) (h4 : Ev K B O L td (.dat (.int n))) (hn : ns.length ≤ 63) (hs : 0 ≤ st) (hm : m ≤ 64) (hk : n ≤ 64) :
    Ev K B O L (tCall (SpPlan K) [] E (tCons ta (tCons tb (tCons tc (tCons td tNil))))) (.new (.lst ((planOf ns st m n).map dPh))) :=
  ev_call (ns, st, m, n) (ea_cons h1 (ea_cons h2 (ea_cons h3 (ea_cons h4 ea_nil)))) ⟨hn, hs, hm, hk⟩ (.cons (.lst hl) (.cons .dat (.cons .dat (.cons .dat .nil))))
def SpWait1 (K : Fg) : Sp := SpF K (fun x : List Phase × Int => [.any fun H v => LmR K H v (x.1.map dPh), .dat (.int x.2)]) (fun x => x.1.length ≤ 100 ∧ ∀ ph, ph ∈ x.1 → Sz 5 ph.2) (fun x => .dat (dO (waitL x.2 x.1)))
theorem c__law_wait (T : Txt K mg a) : Cal P w K mg base CX0 3 "_law_wait" ["plan", "stream"] (SpWait1 K) := by
  refine cal_ok T.f__law_wait sc__law_wait (fun _ => rfl) fun f cdv A outer s B vs R E x hr hp ha hR => ?_
  obtain ⟨pl, i⟩ := x
  dsimp only at hp hR ha
  obtain ⟨hlen, hsz⟩ := hp
  refine ⟨_, (pss_cons (ps_set (i := 2) sc__law_wait.nd rfl (Or.inl rfl) (pe_tup (pa_cons pe_int (pa_cons pe_int pa_nil))))
  (pss_cons (ps_set (i := 3) sc__law_wait.nd rfl (Or.inl rfl) pe_non)
  (pss_cons (ps_for PassesOwn.never rfl (pi_list (pe_op op_cat (pe_op op_cat (pv 0) (pv 0)) (pv 0))) (pg_name (i := 4) sc__law_wait.nd rfl (Or.inl rfl))
    (pss_one (ps_if (pt_cmpR (r := rIn K false) op_in_seq (pv 1) (pe_ix (r := rIxT K) ix_tup (pv 4) pe_int (fun _ _ => rfl)) (by with_unfolding_all rfl)) (pss_cut (ps_if (PW.pt (pw_and (pt_cmpR op_notN (pv 3) pe_non (nomark _)) (pw_and1 (pt_val (Cal.pe (c__law_less T) hr pass0 (pa_cons (pv 2) (pa_cons (pv 3) pa_nil))))))) (pss_one (ps_set (i := 2) sc__law_wait.nd rfl (Or.inl rfl) (pv 3))) pss_nil)
  (pss_one (ps_set (i := 3) sc__law_wait.nd rfl (Or.inl rfl) (pe_tup (pa_cons pe_int (pa_cons pe_int pa_nil)))))) (pss_one (ps_if (pt_cmpR op_notN (pv 3) pe_non (nomark _)) (pss_one (ps_set (i := 3) sc__law_wait.nd rfl (Or.inl rfl) (Cal.pe (c__law_sum T) hr pass0 (pa_cons (pv 3) (pa_cons (pe_ix (r := rIxT K) ix_tup (pv 4) pe_int (fun _ _ => rfl)) pa_nil))))) pss_nil)))))
  (pss_cons (ps_if (pt_cmpR op_isN (pv 3) pe_non (nomark _)) (pss_one (ps_ret pe_non)) pss_nil)
  (pss_one (ps_ret (pv 2))))))), ?_⟩
  try dsimp only [cxOf, Cx.nox, Cx.wish]
  cases ha with
  | cons h1 ha => cases ha with
  | cons h2 ha =>
  cases ha
  obtain ⟨l, xs, rfl, hl1, hl2⟩ := h1
  have hl : LmR K B (.ref l) (pl.map dPh) := ⟨l, xs, rfl, hl1, hl2⟩
  refine body_at (K := K) [.adr l, .int i] (.cons (.adr l) (.cons h2 .nil)) (L := [some (.adr l), some (.int i), none, none, none]) ?_
  unfold waitL at hR
  generalize htp : pl ++ pl ++ pl = tp at hR
  have htl : tp.length ≤ 300 := by
    rw [← htp, List.length_append, List.length_append]
    omega
  have hts : ∀ ph, ph ∈ tp → Sz 5 ph.2 := fun x hx => hsz x (by rw [← htp] at hx; simpa using hx)
  (walk_at "s"); refine s_asg (d := dQ 0) (Ev.isD (d := .tup [.int 0, .int 1]) ?_ rfl) ?_
  · walk_at "ev"
  walk_at "go"
  refine s_forN (ob := .lst (tp.map dPh)) (Ev.isL (ev_cat (ev_cat (ev_var rfl) (Lm.base hl) (ev_var rfl) (Lm.base hl) ?_) Lm.new (ev_var rfl) (Lm.base hl) ?_) ?_) fun q => ?_
  · rw [List.length_map]; omega
  · rw [List.length_append, List.length_map]; omega
  · rw [← htp, List.map_append, List.map_append]
  refine s_for (enc := dPh) (ys := tp) ev_adr (fun _ => [(q, .lst (tp.map dPh))]) (fun p y => [some (.adr l), some (.int i), some (dQ (foldW i (0, none) p).1), some (dO (foldW i (0, none) p).2), some (dPh y)]) (fun p => [some (.adr l), some (.int i), some (dQ (foldW i (0, none) p).1), some (dO (foldW i (0, none) p).2), none]) (fun _ => Ls.own (j := 0) rfl) s_ok (fun p y => tg_name) (fun p y post e => ?_) ?_
  · have hpl : p.length + 1 ≤ 300 := by
      rw [e, List.length_append, List.length_cons] at htl
      omega
    have hps : ∀ ph, ph ∈ p → Sz 5 ph.2 := fun x hx => hts x (by rw [e]; exact List.mem_append_left _ hx)
    have hy : Sz 5 y.2 := hts y (by rw [e]; exact List.mem_append_right _ List.mem_cons_self)
    obtain ⟨z1, z2⟩ := foldW_sz (k := 5) i p 1 (0, none) (by omega) (sz_zero (by omega)) (fun s e => by cases e) hps
    have ef : foldW i (0, none) (p ++ [y]) = stepW i (foldW i (0, none) p) y := foldW_app i _ p [y]
    rw [ef]
    generalize foldW i (0, none) p = z at z1 z2
    obtain ⟨u, v⟩ := z
    dsimp only at z1 z2
    show Nx K B _ [some (.adr l), some (.int i), some (dQ u), some (dO v), some (dPh y)] _
    (walk_at "s"); refine s_if (b := onB i y) (et_test (ev_inT (ev_var rfl) (ev_ixT (ds := [dG y.1, dQ y.2]) (ev_var rfl) ev_int rfl))) (fun hc => ?_) (fun hc => ?_)
    · have es : stepW i (u, v) y = (mxo u v, some 0) := if_pos hc
      rw [es]
      refine s_cut [(q, .lst (tp.map dPh))] [some (.adr l), some (.int i), some (dQ (mxo u v)), some (dO v), some (dPh y)] ?_ ?_
      · cases v with
        | none =>
          refine s_if (b := false && false) (et_and (et_test (ev_notN (d := .non) (ev_var rfl))) fun h => by cases h) (fun h => by cases h) (fun _ => ?_)
          exact s_ok
        | some v =>
          have zv : Sz 4000 v := (z2 v rfl).mono (by omega)
          refine s_if (et_and (et_test (ev_notN (d := dQ v) (ev_var rfl))) fun _ => et_B (ev_less1 (ev_var rfl) (ev_var (d := dQ v) rfl) (z1.mono (by omega)) zv)) (fun h => ?_) (fun h => ?_)
          · have h' : u < v := of_decide_eq_true (by simpa [isNonD] using h)
            have em : mxo u (some v) = v := if_pos h'
            rw [em]
            refine s_asg (ev_var (d := dQ v) rfl) ?_
            exact s_ok
          · have h' : ¬ u < v := fun z => by simp [isNonD, z] at h
            have em : mxo u (some v) = u := if_neg h'
            rw [em]
            exact s_ok
      · (walk_at "s"); refine s_asg (d := dQ 0) (Ev.isD (d := .tup [.int 0, .int 1]) ?_ rfl) ?_
        · walk_at "ev"
        · exact s_okW (.same (.same (.same (.same (.none .nil)))))
    · have es : stepW i (u, v) y = (u, v.map (· + y.2)) := if_neg (by rw [hc]; decide)
      rw [es]
      cases v with
      | none =>
        (walk_at "s"); refine s_if (b := false) (et_test (ev_notN (d := .non) (ev_var rfl))) (fun h => by cases h) (fun _ => ?_)
        exact s_okW (.same (.same (.same (.same (.none .nil)))))
      | some v =>
        have zv : Sz 4000 v := (z2 v rfl).mono (by omega)
        (walk_at "s"); refine s_if (b := true) (et_test (ev_notN (d := dQ v) (ev_var rfl))) (fun _ => ?_) (fun h => by cases h)
        refine s_asg (ev_sum1 (ev_var (d := dQ v) rfl) (ev_ixT (ds := [dG y.1, dQ y.2]) (ev_var rfl) ev_int rfl) zv (hy.mono (by omega))) ?_
        exact s_okW (.same (.same (.same (.same (.none .nil)))))
  · generalize foldW i (0, none) tp = z at hR
    obtain ⟨u, v⟩ := z
    cases v with
    | none =>
      (walk_at "s"); refine s_if (b := true) (et_test (ev_isN (d := .non) (ev_var rfl))) (fun _ => ?_) (fun h => by cases h)
      refine s_ret ev_non ?_
      exact hR
    | some v =>
      (walk_at "s"); refine s_if (b := false) (et_test (ev_isN (d := dQ v) (ev_var rfl))) (fun h => by cases h) (fun _ => s_end ?_)
      refine s_ret (ev_var rfl) ?_
      exact hR
theorem ev_wait1 {B : Hp} {O : Own} {L : Sl} {ta tb : TE} {E : XK} {r : Rs} {pl : List Phase} {i : Int} (h1 : Ev K B O L ta r) (hl : Lm K B O r (pl.map dPh)) (h2 : Ev K B O L tb (.dat (.int i))) (hp : pl.length ≤ 100 ∧ ∀ ph, ph ∈ pl → Sz 5 ph.2) : Ev K B O L (tCall (SpWait1 K) [] E (tCons ta (tCons tb tNil))) (.dat (dO (waitL i pl))) :=
  ev_call (pl, i) (ea_cons h1 (ea_cons h2 ea_nil)) hp (.cons (fun L σ H H2 v s e x => hl L σ H H2 v s e x) (.cons .dat .nil))
end
end My

/-! ### greenturns/plans.py: plans alone -/
namespace My
open PySem PySem.Spec PyProof.Rows L2 GT
section
variable {P : Program} {w : World} {K : Fg} {mg : Str → Option Value} {base : Heap} {a : Adr}
def SpWait (K : Fg) : Sp := SpF K (fun x : List Phase × Int => [.lst (x.1.map dPh), .dat (.int x.2)]) (fun x => x.1.length ≤ 500 ∧ ∀ ph, ph ∈ x.1 → Sz 5 ph.2) (fun x => .dat (dO (waitP x.2 x.1)))
theorem c_longest_wait (T : Txt K mg a) : Cal P w K mg base CX0 3 "longest_wait" ["plan", "stream"] (SpWait K) := by
  refine cal_ok T.f_longest_wait sc_longest_wait (fun _ => rfl) fun f cdv A outer s B vs R E x hr hp ha hR => ?_
  obtain ⟨pl, i⟩ := x
  dsimp only at hp hR ha
  obtain ⟨hlen, hsz⟩ := hp
  refine ⟨_, (pss_cons (ps_set (i := 2) sc_longest_wait.nd rfl (Or.inl rfl) pe_non)
  (pss_cons (ps_for PassesOwn.never rfl (pi_range1 (by rfl) T.z_range (pa_cons (pe_callB call_len_seq (by rfl) T.z_len (by decide +kernel) (pa_cons (pv 0) pa_nil)) pa_nil)) (pg_name (i := 3) sc_longest_wait.nd rfl (Or.inl rfl))
    (pss_one (ps_if (PW.pt (pw_and (pt_cmpR op_isN (pv 2) pe_non (nomark _)) (pw_and1 (pt_cmpR (r := rIn K false) op_in_seq (pv 1) (pe_ix (r := rIxT K) ix_tup (pe_ix (r := rIxL K) ix_list (pv 0) (pv 3) (fun _ _ => rfl)) pe_int (fun _ _ => rfl)) (by with_unfolding_all rfl))))) (pss_one (ps_set (i := 2) sc_longest_wait.nd rfl (Or.inl rfl) (pv 3))) pss_nil)))
  (pss_cons (ps_if (pt_cmpR op_isN (pv 2) pe_non (nomark _)) (pss_one (ps_ret pe_non)) pss_nil)
  (pss_cons (ps_set (i := 4) sc_longest_wait.nd rfl (Or.inl rfl) (pe_glob (v := .ref a.a_NOUGHT) (by rfl) T.g_NOUGHT rfl))
  (pss_cons (ps_set (i := 5) sc_longest_wait.nd rfl (Or.inl rfl) (pe_glob (v := .ref a.a_NOUGHT) (by rfl) T.g_NOUGHT rfl))
  (pss_cons (ps_for PassesOwn.never rfl (pi_list (pe_op op_cat (pe_slice (r := rSlL K) sl_list (pv 0) (po_some (pv 2)) po_none) (pe_slice (r := rSlL K) sl_list (pv 0) po_none (po_some (pv 2))))) (pg_name (i := 6) sc_longest_wait.nd rfl (Or.inl rfl))
    (pss_cut (ps_if (pt_cmpR (r := rIn K false) op_in_seq (pv 1) (pe_ix (r := rIxT K) ix_tup (pv 6) pe_int (fun _ _ => rfl)) (by with_unfolding_all rfl)) (pss_one (ps_set (i := 5) sc_longest_wait.nd rfl (Or.inl rfl) (pe_glob (v := .ref a.a_NOUGHT) (by rfl) T.g_NOUGHT rfl))) (pss_one (ps_set (i := 5) sc_longest_wait.nd rfl (Or.inl rfl) (Cal.pe (c_plus T) hr pass0 (pa_cons (pv 5) (pa_cons (pe_ix (r := rIxT K) ix_tup (pv 6) pe_int (fun _ _ => rfl)) pa_nil))))))
  (pss_one (ps_if (pt_val (Cal.pe (c_less T) hr pass0 (pa_cons (pv 4) (pa_cons (pv 5) pa_nil)))) (pss_one (ps_set (i := 4) sc_longest_wait.nd rfl (Or.inl rfl) (pv 5))) pss_nil))))
  (pss_one (ps_ret (pv 4))))))))), ?_⟩
  try dsimp only [cxOf, Cx.nox, Cx.wish]
  cases ha with
  | cons h1 ha => cases ha with
  | cons h2 ha =>
  cases ha
  obtain ⟨l, xs, rfl, hl1, hl2⟩ := h1
  have hl : LsR K B (.ref l) (pl.map dPh) := ⟨l, xs, rfl, hl1, hl2⟩
  refine body_at (K := K) [.adr l, .int i] (.cons (.adr l) (.cons h2 .nil)) (L := [some (.adr l), some (.int i), none, none, none, none, none]) ?_
  walk_at "go"
  refine s_forRA (n := pl.length) (ed_cons (Ev.isD (ev_lenL (ev_var rfl) (Ls.base hl)) (by rw [List.length_map])) ed_nil) (by omega) (fun _ => []) (fun k => [some (.adr l), some (.int i), some (dN ((pl.take k).findIdx? (onB i))), none, none, none, none]) s_ok ?_ ?_
  · intro k hk
    have hgk : pl[k]? = some pl[k] := List.getElem?_eq_getElem hk
    have et : pl.take (k + 1) = pl.take k ++ [pl[k]] := by rw [List.take_add_one, hgk]; rfl
    have hat : atI (pl.map dPh) (k : Int) = some (dPh pl[k]) := atI_nat' hgk
    have efi : (pl.take (k + 1)).findIdx? (onB i) = ((pl.take k).findIdx? (onB i)).or (if onB i pl[k] = true then some k else none) := by
      rw [et, findIdx_snoc, List.length_take, Nat.min_eq_left (by omega)]
    rw [efi]
    generalize (pl.take k).findIdx? (onB i) = o
    have eon : ∀ {L : Sl} {ta : TE} {tb : TE} {tc : TE}, Ev K B [] L ta (.dat (.adr l)) → Ev K B [] L tb (.dat (.int k)) → Ev K B [] L tc (.dat (.int i)) → Ev K B [] L (tOp (rIn K false) tc (tOp (rIxT K) (tOp (rIxL K) ta tb) (tC (.int 0)))) (.dat (.bl (onB i pl[k]))) := fun h1 h2 h3 => ev_inT h3 (ev_ixT (ds := [dG pl[k].1, dQ pl[k].2]) (ev_ixL h1 (Ls.base hl) h2 hat) ev_int rfl)
    (walk_at "s"); refine s_if (et_and (et_test (ev_isN (ev_var rfl))) fun _ => et_test (eon (ev_var rfl) (ev_var rfl) (ev_var rfl))) (fun hc => ?_) (fun hc => ?_)
    · have h1 := Bool.and_eq_true_iff.mp hc
      have ho : o = none := by
        cases o with
        | none => rfl
        | some j => exact absurd (show false = true from h1.1) (by decide)
      subst ho
      rw [if_pos h1.2]
      walk_at "go"
      exact s_okW (.same (.same (.same (.none (.none (.none (.none .nil)))))))
    · walk_at "go"
      have ho : o.or (if onB i pl[k] = true then some k else none) = o := by
        cases o with
        | none =>
          have : ¬ onB i pl[k] = true := fun z => by
            rw [z] at hc
            exact absurd hc (by decide)
          rw [if_neg this]
          rfl
        | some j => rfl
      rw [ho]
      exact s_okW (.same (.same (.same (.none (.none (.none (.none .nil)))))))
  rw [List.take_length]
  unfold waitP at hR
  cases hf : pl.findIdx? (onB i) with
  | none =>
    rw [hf] at hR
    (walk_at "s"); refine s_if (b := true) (et_test (ev_isN (d := .non) (ev_var rfl))) (fun _ => ?_) (fun h => by cases h)
    refine s_ret ev_non ?_
    exact hR
  | some k =>
    rw [hf] at hR
    obtain ⟨hk, _, _⟩ := List.findIdx?_eq_some_iff_getElem.mp hf
    have hR : Rt K B R (.dat (dQ (foldP i (0, 0) (pl.drop k ++ pl.take k)).1)) := hR
    generalize hrd : pl.drop k ++ pl.take k = rot at hR
    have hrlen : rot.length ≤ 500 := by
      rw [← hrd, List.length_append, List.length_drop, List.length_take]
      omega
    have hrsz : ∀ ph, ph ∈ rot → Sz 5 ph.2 := fun x hx => by
      rw [← hrd] at hx
      rcases List.mem_append.mp hx with h | h
      · exact hsz x (List.mem_of_mem_drop h)
      · exact hsz x (List.mem_of_mem_take h)
    (walk_at "s"); refine s_if (b := false) (et_test (ev_isN (d := .int k) (ev_var rfl))) (fun h => by cases h) (fun _ => s_end ?_)
    (walk_at "s"); refine s_asg (ev_nought T) ?_
    (walk_at "s"); refine s_asg (ev_nought T) ?_
    (walk_at "s"); refine s_forN (ob := .lst (rot.map dPh)) (Ev.isL (ev_cat (ev_slL (ev_var rfl) (Ls.base hl) (eo_some (ev_var (d := .int k) rfl)) eo_none) Lm.new (ev_slL (ev_var rfl) (Ls.base hl) eo_none (eo_some (ev_var (d := .int k) rfl))) Lm.new ?_) ?_) fun q => ?_
    · rw [cutD_drop (by rw [List.length_map]; omega), cutD_take (by rw [List.length_map]; omega), List.length_drop, List.length_take, List.length_map]
      omega
    · rw [cutD_drop (by rw [List.length_map]; omega), cutD_take (by rw [List.length_map]; omega), ← hrd, List.map_append, List.map_drop, List.map_take]
    refine s_for (enc := dPh) (ys := rot) ev_adr (fun _ => [(q, .lst (rot.map dPh))]) (fun p y => [some (.adr l), some (.int i), some (.int k), none, some (dQ (foldP i (0, 0) p).1), some (dQ (foldP i (0, 0) p).2), some (dPh y)]) (fun p => [some (.adr l), some (.int i), some (.int k), none, some (dQ (foldP i (0, 0) p).1), some (dQ (foldP i (0, 0) p).2), none]) (fun _ => Ls.own (j := 0) rfl) s_ok (fun p y => tg_name) (fun p y post e => ?_) ?_
    · have hpl : p.length + 1 ≤ 500 := by
        rw [e, List.length_append, List.length_cons] at hrlen
        omega
      have hps : ∀ ph, ph ∈ p → Sz 5 ph.2 := fun x hx => hrsz x (by rw [e]; exact List.mem_append_left _ hx)
      have hy : Sz 5 y.2 := hrsz y (by rw [e]; exact List.mem_append_right _ List.mem_cons_self)
      obtain ⟨z1, z2⟩ := foldP_sz (k := 5) i p 1 (0, 0) (by omega) (sz_zero (by omega)) (sz_zero (by omega)) hps
      have ef : foldP i (0, 0) (p ++ [y]) = stepP i (foldP i (0, 0) p) y := foldP_app i _ p [y]
      rw [ef]
      generalize foldP i (0, 0) p = z at z1 z2
      obtain ⟨u, v⟩ := z
      dsimp only at z1 z2
      have zs : Sz 4000 (stepS i v y) := (stepS_sz z2 (by omega) hy).mono (by omega)
      show Nx K B _ [some (.adr l), some (.int i), some (.int k), none, some (dQ u), some (dQ v), some (dPh y)] _
      refine s_cut [(q, .lst (rot.map dPh))] [some (.adr l), some (.int i), some (.int k), none, some (dQ u), some (dQ (stepS i v y)), some (dPh y)] ?_ ?_
      · (walk_at "s"); refine s_if (b := onB i y) (et_test (ev_inT (ev_var rfl) (ev_ixT (ds := [dG y.1, dQ y.2]) (ev_var rfl) ev_int rfl))) (fun hc => ?_) (fun hc => ?_)
        · unfold stepS
          rw [if_pos hc]
          refine s_asg (ev_nought T) ?_
          exact s_ok
        · unfold stepS
          rw [if_neg (by rw [hc]; decide)]
          refine s_asg (ev_plus (ev_var rfl) (ev_ixT (ds := [dG y.1, dQ y.2]) (ev_var rfl) ev_int rfl) (z2.mono (by omega)) (hy.mono (by omega))) ?_
          exact s_ok
      · show Nx K B _ _ _
        (walk_at "s"); refine s_if (et_B (ev_less (ev_var rfl) (ev_var rfl) (z1.mono (by omega)) zs)) (fun hc => ?_) (fun hc => ?_)
        · walk_at "go"
          have em : (stepP i (u, v) y).1 = stepS i v y := if_pos (of_decide_eq_true hc)
          show Nx K B _ _ fun σ H => Sat K B _ [_, _, _, _, some (dQ (stepP i (u, v) y).1), some (dQ (stepS i v y)), none] σ H
          rw [em]
          exact s_okW (.same (.same (.same (.same (.same (.same (.none .nil)))))))
        · walk_at "go"
          have em : (stepP i (u, v) y).1 = u := if_neg (of_decide_eq_false hc)
          show Nx K B _ _ fun σ H => Sat K B _ [_, _, _, _, some (dQ (stepP i (u, v) y).1), some (dQ (stepS i v y)), none] σ H
          rw [em]
          exact s_okW (.same (.same (.same (.same (.same (.same (.none .nil)))))))
    · (walk_at "s"); refine s_ret (ev_var rfl) ?_
      exact hR
theorem ev_wait {B : Hp} {O : Own} {L : Sl} {ta tb : TE} {E : XK} {r : Rs} {pl : List Phase} {i : Int} (h1 : Ev K B O L ta r) (hl : Ls K B O r (pl.map dPh)) (h2 : Ev K B O L tb (.dat (.int i))) (hp : pl.length ≤ 500 ∧ ∀ ph, ph ∈ pl → Sz 5 ph.2) : Ev K B O L (tCall (SpWait K) [] E (tCons ta (tCons tb tNil))) (.dat (dO (waitP i pl))) :=
  ev_call (pl, i) (ea_cons h1 (ea_cons h2 ea_nil)) hp (.cons (.lst hl) (.cons .dat .nil))
end
end My

namespace My
open PySem PySem.Spec PyProof.Rows L2 GT
section
variable {P : Program} {w : World} {K : Fg} {mg : Str → Option Value} {base : Heap} {a : Adr}
theorem ok_law (T : Txt K mg a) {f : Addr} {fd : FuncData} (F : Fun K "law" "law" s_law f fd) : FnOk P w K mg base CX0 4 f fd ["script"] (SpLaw K) := by
  refine fun_ok F sc_law (fun _ => rfl) fun cdv A outer s B vs R E ns hr hn ha hR => ?_
  refine ⟨_, (pss_cons (ps_set (i := 1) sc_law.nd rfl (Or.inl rfl) (Cal.pe (c__law_plan T) hr pass0 (pa_cons (pv 0) (pa_cons pe_int (pa_cons pe_int (pa_cons (pe_op op_add pe_int (pe_op op_mod (Cal.pe (c__law_cell_at T) hr pass0 (pa_cons (pv 0) (pa_cons pe_int pa_nil))) pe_int)) pa_nil))))))
  (pss_cut (ps_if (pt_cmpR op_eq (pe_op op_mod (Cal.pe (c__law_cell_at T) hr pass0 (pa_cons (pv 0) (pa_cons pe_int pa_nil))) pe_int) pe_int (nomark _)) (pss_one (ps_asg (pe_tup (pa_cons (pe_tup (pa_cons pe_int (pa_cons pe_int (pa_cons pe_int (pa_cons pe_int (pa_cons pe_int (pa_cons pe_int pa_nil))))))) (pa_cons (pe_ix (r := rIxT K) ix_tup (pe_ix (r := rIxL K) ix_list (pv 1) pe_int (fun _ _ => rfl)) pe_int (fun _ _ => rfl)) pa_nil))) (pg_sub (pv 1) pe_int set_list))) pss_nil)
  (pss_cons (ps_set (i := 2) sc_law.nd rfl (Or.inl rfl) (pe_callTy call_list_of (by rfl) T.z_list (by decide +kernel) (pa_cons (pv 1) pa_nil)))
  (pss_cons (ps_for PassesOwn.never rfl (pi_range1 (by rfl) T.z_range (pa_cons pe_int pa_nil)) (pg_name (i := 3) sc_law.nd rfl (Or.inl rfl))
    (pss_cons (ps_set (i := 4) sc_law.nd rfl (Or.inl rfl) (Cal.pe (c__law_wait T) hr pass0 (pa_cons (pv 1) (pa_cons (pv 3) pa_nil))))
  (pss_cons (ps_set (i := 5) sc_law.nd rfl (Or.inl rfl) (Cal.pe (c_longest_wait T) hr pass0 (pa_cons (pv 2) (pa_cons (pv 3) pa_nil))))
  (pss_cons (ps_if (PW.pt (pw_and (pt_cmpR op_isN (pv 4) pe_non (nomark _)) (pw_and1 (pt_cmpR op_notN (pv 5) pe_non (nomark _))))) (pss_one (ps_ret pe_bl)) pss_nil)
  (pss_one (ps_if (PW.pt (pw_and (pt_cmpR op_notN (pv 4) pe_non (nomark _)) (pw_and1 (pt_not (pt_val (Cal.pe (c__law_fraction T) hr pass0 (pa_cons (pv 5) (pa_cons (pv 4) pa_nil)))))))) (pss_one (ps_ret pe_bl)) pss_nil))))))
  (pss_one (ps_ret (pe_cmpR (r := rEqD K) (op_eqD hr.units) (pv 2) (pv 1) (nomark _)))))))), ?_⟩
  try dsimp only [cxOf, Cx.nox, Cx.wish]
  cases ha with
  | cons h1 ha =>
  cases ha
  obtain ⟨l, xs, rfl, hl1, hl2⟩ := h1
  have hl : LsR K B (.ref l) (ns.map .int) := ⟨l, xs, rfl, hl1, hl2⟩
  refine body_at (K := K) [.adr l] (.cons (.adr l) .nil) (L := [some (.adr l), none, none, none, none, none]) ?_
  have m1 := Int.emod_nonneg (cell ns 0) (show (7 : Int) ≠ 0 by decide)
  have m2 := Int.emod_lt_of_pos (cell ns 0) (show (0 : Int) < 7 by decide)
  obtain ⟨m, hm⟩ : ∃ m : Nat, (m : Int) = 1 + cell ns 0 % 7 := ⟨(1 + cell ns 0 % 7).toNat, by omega⟩
  have p7 : (0 : Int) < 7 := by decide
  have p5 : (0 : Int) < 5 := by decide
  (walk_at "s"); refine s_asgN (ob := .lst ((planOf ns 2 6 m).map dPh)) (ev_plan (m := 6) (n := m) (ev_var rfl) (Ls.base hl) (ev_int (i := 2)) (ev_int.isD rfl) (Ev.isD (d := .int (1 + cell ns 0 % 7)) ?_ (by rw [hm])) hn (by decide) (by decide) (by omega)) fun p => ?_
  · walk_at "ev"
  have hpos : pos2 (planOf ns 2 6 m) := planOf_pos
  have hlen := planOf_len ns 2 6 m
  have hszs : ∀ ph, ph ∈ planOf ns 2 6 m → Sz 5 ph.2 := fun ph h => planOf_sz _ (List.mem_map_of_mem h)
  generalize planOf ns 2 6 m = pl at *
  obtain ⟨ph0, r0, e0⟩ : ∃ ph0 r0, pl = ph0 :: r0 := by
    cases pl with
    | nil => simp at hlen; omega
    | cons x y => exact ⟨x, y, rfl⟩
  -- the first phase, all go
  obtain ⟨pl2, hpos2, hlen2, hsz2, hif⟩ : ∃ pl2 : List Phase, pos2 pl2 ∧ pl2.length = m ∧ (∀ ph, ph ∈ pl2 → Sz 5 ph.2) ∧ pl2 = if decide (cell ns 1 % 5 = 1) = true then (([0, 1, 2, 3, 4, 5], ph0.2) : Phase) :: r0 else pl := by
    by_cases h : decide (cell ns 1 % 5 = 1) = true
    · refine ⟨([0, 1, 2, 3, 4, 5], ph0.2) :: r0, fun x hx => ?_, ?_, fun x hx => ?_, by rw [if_pos h]⟩
      · rcases List.mem_cons.mp hx with h | h
        · rw [h]
          exact hpos ph0 (by rw [e0]; exact List.mem_cons_self)
        · exact hpos x (by rw [e0]; exact List.mem_cons_of_mem _ h)
      · rw [← hlen, e0]
        rfl
      · rcases List.mem_cons.mp hx with h | h
        · rw [h]
          exact hszs ph0 (by rw [e0]; exact List.mem_cons_self)
        · exact hszs x (by rw [e0]; exact List.mem_cons_of_mem _ h)
    · exact ⟨pl, hpos, hlen, hszs, by rw [if_neg h]⟩
  refine s_cut [(p, .lst (pl2.map dPh))] [some (.adr l), some (.adr p), none, none, none, none] ?_ ?_
  · refine s_if (b := decide (cell ns 1 % 5 = 1)) (et_test (ev_eqI (ev_rI (ev_cell (ev_var rfl) (Ls.base hl) ev_int (by decide) hn) ev_int p5 (fun _ => .int _)) ev_int)) (fun hc => ?_) (fun hc => ?_)
    · rw [if_pos hc] at hif
      refine s_setL (j := 0) (i := 0) (d := dPh (([0, 1, 2, 3, 4, 5], ph0.2) : Phase)) ?_ (ev_var rfl) rfl ev_int ?_ ?_
      · refine ev_tup (ds := [dG [0, 1, 2, 3, 4, 5], dQ ph0.2]) (ed_cons ?_ (ed_cons (ev_ixT (ds := [dG ph0.1, dQ ph0.2]) (ev_ixL (i := 0) (ev_var rfl) (Ls.own (j := 0) rfl) ev_int ?_) ev_int rfl) ed_nil))
        · show Ev K B _ _ _ (.dat (.tup [.int 0, .int 1, .int 2, .int 3, .int 4, .int 5]))
          walk_at "ev"
        · rw [e0]
          exact atI_nat' (k := 0) rfl
      · exact ixN_nat (j := 0) (by rw [List.length_map]; omega)
      · rw [hif, e0]
        exact s_ok
    · rw [if_neg (by rw [hc]; decide)] at hif
      rw [hif]
      exact s_ok
  clear hif hszs hpos hlen e0
  (walk_at "s"); refine s_asgN (ob := .lst (pl2.map dPh)) (ev_listL (ev_var rfl) (Ls.own (j := 0) rfl)) fun p2 => ?_
  (walk_at "s"); refine s_forRA (n := 6) ?_ (by decide) (fun _ => [(p, .lst (pl2.map dPh)), (p2, .lst (pl2.map dPh))]) (fun _ => [some (.adr l), some (.adr p), some (.adr p2), none, none, none]) s_ok ?_ ?_
  · walk_at "ed"
  · intro i hi
    (walk_at "s"); refine s_asg (ev_wait1 (ev_var rfl) (Lm.own (j := 0) rfl) (ev_var rfl) ⟨by omega, hsz2⟩) ?_
    (walk_at "s"); refine s_asg (ev_wait (ev_var rfl) (Ls.own (j := 1) rfl) (ev_var rfl) ⟨by omega, hsz2⟩) ?_
    rw [wait_eq i pl2 hpos2]
    cases waitP i pl2 with
    | none =>
      (walk_at "s"); refine s_if (b := true && false) (et_and (et_test (ev_isN (d := .non) (ev_var rfl))) fun _ => et_test (ev_notN (d := .non) (ev_var rfl))) (fun h => by cases h) (fun _ => s_end ?_)
      (walk_at "s"); refine s_if (b := false && false) (et_and (et_test (ev_notN (d := .non) (ev_var rfl))) fun h => by cases h) (fun h => by cases h) (fun _ => s_end ?_)
      exact s_okW (.same (.same (.same (.none (.none (.none .nil))))))
    | some q =>
      (walk_at "s"); refine s_if (b := false && false) (et_and (et_test (ev_isN (d := dQ q) (ev_var rfl))) fun h => by cases h) (fun h => by cases h) (fun _ => s_end ?_)
      (walk_at "s"); refine s_if (b := true && !decide (q = q)) (et_and (et_test (ev_notN (d := dQ q) (ev_var rfl))) fun _ => et_not (et_B (ev_frac (ev_var rfl) (ev_var rfl)))) (fun h => by simp at h) (fun _ => s_end ?_)
      exact s_okW (.same (.same (.same (.none (.none (.none .nil))))))
  (walk_at "s"); refine s_ret (r := .dat (.bl true)) (Ev.isD (ev_eqL (ev_var rfl) (Ls.own (j := 1) rfl) (ev_var rfl) (Ls.own (j := 0) rfl) (okL_good goodPh (by omega) _) (okL_good goodPh (by omega) _)) ?_) ?_
  · rw [eqL_good goodPh, decide_eq_true rfl]
  · exact hR
end
end My

namespace My
open PySem PySem.Spec PyProof.Rows L2 GT
/-! ### what the top has written; the law's own head -/
theorem all_mk {l : PySem.W.OpenLaw} {w : World} {K : Fg} {h : Heap} {mg : Str → Option Value} {fa : Addr} (X : K.In h) (G : h.Ns mainGlobals mg) (hfa : mg "law" = some (.ref fa))
    {C_NOUGHT : Addr} {od_NOUGHT : Option Addr} {sl_NOUGHT : Array (Option Value)} {t1_NOUGHT t2_NOUGHT : Tok} {n_NOUGHT : Nat}
    {od1 an1 : Option Addr} {sl1 : Array (Option Value)} {oc1 kV1 dc1 pm1 cd1 ct1 : Value} {f1 : Addr}
    {od2 an2 : Option Addr} {sl2 : Array (Option Value)} {oc2 kV2 dc2 pm2 cd2 ct2 : Value} {f2 : Addr}
    {od3 an3 : Option Addr} {sl3 : Array (Option Value)} {oc3 kV3 dc3 pm3 cd3 ct3 : Value} {f3 : Addr}
    {od4 an4 : Option Addr} {sl4 : Array (Option Value)} {oc4 kV4 dc4 pm4 cd4 ct4 : Value} {f4 : Addr}
    {od5 an5 : Option Addr} {sl5 : Array (Option Value)} {oc5 kV5 dc5 pm5 cd5 ct5 : Value} {f5 : Addr}
    {od6 an6 : Option Addr} {sl6 : Array (Option Value)} {oc6 kV6 dc6 pm6 cd6 ct6 : Value} {f6 : Addr}
    {od7 an7 : Option Addr} {sl7 : Array (Option Value)} {oc7 kV7 dc7 pm7 cd7 ct7 : Value} {f7 : Addr}
    {od8 an8 : Option Addr} {sl8 : Array (Option Value)} {oc8 kV8 dc8 pm8 cd8 ct8 : Value} {f8 : Addr}
    {od9 an9 : Option Addr} {sl9 : Array (Option Value)} {oc9 kV9 dc9 pm9 cd9 ct9 : Value} {f9 : Addr}
    {od10 an10 : Option Addr} {sl10 : Array (Option Value)} {oc10 kV10 dc10 pm10 cd10 ct10 : Value} {f10 : Addr}
    {od11 an11 : Option Addr} {sl11 : Array (Option Value)} {oc11 kV11 dc11 pm11 cd11 ct11 : Value} {f11 : Addr}
    {od12 an12 : Option Addr} {sl12 : Array (Option Value)} {oc12 kV12 dc12 pm12 cd12 ct12 : Value} {f12 : Addr}
    {od13 an13 : Option Addr} {sl13 : Array (Option Value)} {oc13 kV13 dc13 pm13 cd13 ct13 : Value} {f13 : Addr}
    {od14 an14 : Option Addr} {sl14 : Array (Option Value)} {oc14 kV14 dc14 pm14 cd14 ct14 : Value} {f14 : Addr}
    (g_NOUGHT : PySem.W.nsIn K mainGlobals "NOUGHT" = some (some (.ref C_NOUGHT)))
    (l_NOUGHT : K.lookup C_NOUGHT = some ⟨.type "tuple", od_NOUGHT, .seq #[.int 0 t1_NOUGHT, .int 1 t2_NOUGHT] n_NOUGHT, sl_NOUGHT⟩)
    (z_abs : PySem.W.nsIn K mainGlobals "abs" = some none)
    (z_bool : PySem.W.nsIn K mainGlobals "bool" = some none)
    (z_int : PySem.W.nsIn K mainGlobals "int" = some none)
    (z_isinstance : PySem.W.nsIn K mainGlobals "isinstance" = some none)
    (z_len : PySem.W.nsIn K mainGlobals "len" = some none)
    (z_list : PySem.W.nsIn K mainGlobals "list" = some none)
    (z_range : PySem.W.nsIn K mainGlobals "range" = some none)
    (z_tuple : PySem.W.nsIn K mainGlobals "tuple" = some none)
    (a1 : PySem.W.nsIn K mainGlobals "lowest" = some (some (.ref f1)))
    (l1 : K.lookup f1 = some ⟨oc1, od1, .func (PySem.W.fnOf "lowest" "lowest" (defArgs s_lowest) (defBody s_lowest) (defScope s_lowest) .none kV1 dc1 pm1 an1 cd1 ct1), sl1⟩)
    (c1 : PySem.W.codeIn K cd1 "lowest" = true)
    (k1 : PySem.W.keepIn K (.ref f1) = true)
    (a2 : PySem.W.nsIn K mainGlobals "plus" = some (some (.ref f2)))
    (l2 : K.lookup f2 = some ⟨oc2, od2, .func (PySem.W.fnOf "plus" "plus" (defArgs s_plus) (defBody s_plus) (defScope s_plus) .none kV2 dc2 pm2 an2 cd2 ct2), sl2⟩)
    (c2 : PySem.W.codeIn K cd2 "plus" = true)
    (k2 : PySem.W.keepIn K (.ref f2) = true)
    (a3 : PySem.W.nsIn K mainGlobals "less" = some (some (.ref f3)))
    (l3 : K.lookup f3 = some ⟨oc3, od3, .func (PySem.W.fnOf "less" "less" (defArgs s_less) (defBody s_less) (defScope s_less) .none kV3 dc3 pm3 an3 cd3 ct3), sl3⟩)
    (c3 : PySem.W.codeIn K cd3 "less" = true)
    (k3 : PySem.W.keepIn K (.ref f3) = true)
    (a4 : PySem.W.nsIn K mainGlobals "longest_wait" = some (some (.ref f4)))
    (l4 : K.lookup f4 = some ⟨oc4, od4, .func (PySem.W.fnOf "longest_wait" "longest_wait" (defArgs s_longest_wait) (defBody s_longest_wait) (defScope s_longest_wait) .none kV4 dc4 pm4 an4 cd4 ct4), sl4⟩)
    (c4 : PySem.W.codeIn K cd4 "longest_wait" = true)
    (k4 : PySem.W.keepIn K (.ref f4) = true)
    (a5 : PySem.W.nsIn K mainGlobals "_law_cell_at" = some (some (.ref f5)))
    (l5 : K.lookup f5 = some ⟨oc5, od5, .func (PySem.W.fnOf "_law_cell_at" "_law_cell_at" (defArgs s__law_cell_at) (defBody s__law_cell_at) (defScope s__law_cell_at) .none kV5 dc5 pm5 an5 cd5 ct5), sl5⟩)
    (c5 : PySem.W.codeIn K cd5 "_law_cell_at" = true)
    (k5 : PySem.W.keepIn K (.ref f5) = true)
    (a6 : PySem.W.nsIn K mainGlobals "_law_low" = some (some (.ref f6)))
    (l6 : K.lookup f6 = some ⟨oc6, od6, .func (PySem.W.fnOf "_law_low" "_law_low" (defArgs s__law_low) (defBody s__law_low) (defScope s__law_low) .none kV6 dc6 pm6 an6 cd6 ct6), sl6⟩)
    (c6 : PySem.W.codeIn K cd6 "_law_low" = true)
    (k6 : PySem.W.keepIn K (.ref f6) = true)
    (a7 : PySem.W.nsIn K mainGlobals "_law_sum" = some (some (.ref f7)))
    (l7 : K.lookup f7 = some ⟨oc7, od7, .func (PySem.W.fnOf "_law_sum" "_law_sum" (defArgs s__law_sum) (defBody s__law_sum) (defScope s__law_sum) .none kV7 dc7 pm7 an7 cd7 ct7), sl7⟩)
    (c7 : PySem.W.codeIn K cd7 "_law_sum" = true)
    (k7 : PySem.W.keepIn K (.ref f7) = true)
    (a8 : PySem.W.nsIn K mainGlobals "_law_less" = some (some (.ref f8)))
    (l8 : K.lookup f8 = some ⟨oc8, od8, .func (PySem.W.fnOf "_law_less" "_law_less" (defArgs s__law_less) (defBody s__law_less) (defScope s__law_less) .none kV8 dc8 pm8 an8 cd8 ct8), sl8⟩)
    (c8 : PySem.W.codeIn K cd8 "_law_less" = true)
    (k8 : PySem.W.keepIn K (.ref f8) = true)
    (a9 : PySem.W.nsIn K mainGlobals "_law_whole" = some (some (.ref f9)))
    (l9 : K.lookup f9 = some ⟨oc9, od9, .func (PySem.W.fnOf "_law_whole" "_law_whole" (defArgs s__law_whole) (defBody s__law_whole) (defScope s__law_whole) .none kV9 dc9 pm9 an9 cd9 ct9), sl9⟩)
    (c9 : PySem.W.codeIn K cd9 "_law_whole" = true)
    (k9 : PySem.W.keepIn K (.ref f9) = true)
    (a10 : PySem.W.nsIn K mainGlobals "_law_fraction" = some (some (.ref f10)))
    (l10 : K.lookup f10 = some ⟨oc10, od10, .func (PySem.W.fnOf "_law_fraction" "_law_fraction" (defArgs s__law_fraction) (defBody s__law_fraction) (defScope s__law_fraction) .none kV10 dc10 pm10 an10 cd10 ct10), sl10⟩)
    (c10 : PySem.W.codeIn K cd10 "_law_fraction" = true)
    (k10 : PySem.W.keepIn K (.ref f10) = true)
    (a11 : PySem.W.nsIn K mainGlobals "_law_bits" = some (some (.ref f11)))
    (l11 : K.lookup f11 = some ⟨oc11, od11, .func (PySem.W.fnOf "_law_bits" "_law_bits" (defArgs s__law_bits) (defBody s__law_bits) (defScope s__law_bits) .none kV11 dc11 pm11 an11 cd11 ct11), sl11⟩)
    (c11 : PySem.W.codeIn K cd11 "_law_bits" = true)
    (k11 : PySem.W.keepIn K (.ref f11) = true)
    (a12 : PySem.W.nsIn K mainGlobals "_law_plan" = some (some (.ref f12)))
    (l12 : K.lookup f12 = some ⟨oc12, od12, .func (PySem.W.fnOf "_law_plan" "_law_plan" (defArgs s__law_plan) (defBody s__law_plan) (defScope s__law_plan) .none kV12 dc12 pm12 an12 cd12 ct12), sl12⟩)
    (c12 : PySem.W.codeIn K cd12 "_law_plan" = true)
    (k12 : PySem.W.keepIn K (.ref f12) = true)
    (a13 : PySem.W.nsIn K mainGlobals "_law_wait" = some (some (.ref f13)))
    (l13 : K.lookup f13 = some ⟨oc13, od13, .func (PySem.W.fnOf "_law_wait" "_law_wait" (defArgs s__law_wait) (defBody s__law_wait) (defScope s__law_wait) .none kV13 dc13 pm13 an13 cd13 ct13), sl13⟩)
    (c13 : PySem.W.codeIn K cd13 "_law_wait" = true)
    (k13 : PySem.W.keepIn K (.ref f13) = true)
    (a14 : PySem.W.nsIn K mainGlobals "law" = some (some (.ref f14)))
    (l14 : K.lookup f14 = some ⟨oc14, od14, .func (PySem.W.fnOf "law" "law" (defArgs s_law) (defBody s_law) (defScope s_law) .none kV14 dc14 pm14 an14 cd14 ct14), sl14⟩)
    (c14 : PySem.W.codeIn K cd14 "law" = true)
    (k14 : PySem.W.keepIn K (.ref f14) = true)
    : ∃ fd : FuncData, (∀ (s : Shared) (v : Value), BindsTo s fd ⟨[v], []⟩ [("script", v)]) ∧ ∀ base : Heap, K.In base → base.Ns mainGlobals mg → FnOk l.prog w K mg base CX0 4 fa fd ["script"] (SpLaw K) := by
  have e := hfa.symm.trans (PySem.W.mg_of X G a14)
  cases e
  have T : Txt K mg ⟨C_NOUGHT⟩ := {
    f_lowest := ⟨_, _, (fun_mk (st := s_lowest) l1 c1 k1), PySem.W.mg_of X G a1, ((fun_mk (st := s_lowest) l1 c1 k1).binds (ps := ["top", "bottom"]) fun _ _ _ _ _ _ us hl => match us, hl with | [_, _], _ => rfl)⟩,
    f_plus := ⟨_, _, (fun_mk (st := s_plus) l2 c2 k2), PySem.W.mg_of X G a2, ((fun_mk (st := s_plus) l2 c2 k2).binds (ps := ["one", "other"]) fun _ _ _ _ _ _ us hl => match us, hl with | [_, _], _ => rfl)⟩,
    f_less := ⟨_, _, (fun_mk (st := s_less) l3 c3 k3), PySem.W.mg_of X G a3, ((fun_mk (st := s_less) l3 c3 k3).binds (ps := ["one", "other"]) fun _ _ _ _ _ _ us hl => match us, hl with | [_, _], _ => rfl)⟩,
    f_longest_wait := ⟨_, _, (fun_mk (st := s_longest_wait) l4 c4 k4), PySem.W.mg_of X G a4, ((fun_mk (st := s_longest_wait) l4 c4 k4).binds (ps := ["plan", "stream"]) fun _ _ _ _ _ _ us hl => match us, hl with | [_, _], _ => rfl)⟩,
    f__law_cell_at := ⟨_, _, (fun_mk (st := s__law_cell_at) l5 c5 k5), PySem.W.mg_of X G a5, ((fun_mk (st := s__law_cell_at) l5 c5 k5).binds (ps := ["script", "k"]) fun _ _ _ _ _ _ us hl => match us, hl with | [_, _], _ => rfl)⟩,
    f__law_low := ⟨_, _, (fun_mk (st := s__law_low) l6 c6 k6), PySem.W.mg_of X G a6, ((fun_mk (st := s__law_low) l6 c6 k6).binds (ps := ["top", "bottom"]) fun _ _ _ _ _ _ us hl => match us, hl with | [_, _], _ => rfl)⟩,
    f__law_sum := ⟨_, _, (fun_mk (st := s__law_sum) l7 c7 k7), PySem.W.mg_of X G a7, ((fun_mk (st := s__law_sum) l7 c7 k7).binds (ps := ["one", "other"]) fun _ _ _ _ _ _ us hl => match us, hl with | [_, _], _ => rfl)⟩,
    f__law_less := ⟨_, _, (fun_mk (st := s__law_less) l8 c8 k8), PySem.W.mg_of X G a8, ((fun_mk (st := s__law_less) l8 c8 k8).binds (ps := ["one", "other"]) fun _ _ _ _ _ _ us hl => match us, hl with | [_, _], _ => rfl)⟩,
    f__law_whole := ⟨_, _, (fun_mk (st := s__law_whole) l9 c9 k9), PySem.W.mg_of X G a9, ((fun_mk (st := s__law_whole) l9 c9 k9).binds (ps := ["found"]) fun _ _ _ _ _ _ us hl => match us, hl with | [_], _ => rfl)⟩,
    f__law_fraction := ⟨_, _, (fun_mk (st := s__law_fraction) l10 c10 k10), PySem.W.mg_of X G a10, ((fun_mk (st := s__law_fraction) l10 c10 k10).binds (ps := ["found", "due"]) fun _ _ _ _ _ _ us hl => match us, hl with | [_, _], _ => rfl)⟩,
    f__law_bits := ⟨_, _, (fun_mk (st := s__law_bits) l11 c11 k11), PySem.W.mg_of X G a11, ((fun_mk (st := s__law_bits) l11 c11 k11).binds (ps := ["number", "streams"]) fun _ _ _ _ _ _ us hl => match us, hl with | [_, _], _ => rfl)⟩,
    f__law_plan := ⟨_, _, (fun_mk (st := s__law_plan) l12 c12 k12), PySem.W.mg_of X G a12, ((fun_mk (st := s__law_plan) l12 c12 k12).binds (ps := ["script", "start", "streams", "phases"]) fun _ _ _ _ _ _ us hl => match us, hl with | [_, _, _, _], _ => rfl)⟩,
    f__law_wait := ⟨_, _, (fun_mk (st := s__law_wait) l13 c13 k13), PySem.W.mg_of X G a13, ((fun_mk (st := s__law_wait) l13 c13 k13).binds (ps := ["plan", "stream"]) fun _ _ _ _ _ _ us hl => match us, hl with | [_, _], _ => rfl)⟩,
    f_law := ⟨_, _, (fun_mk (st := s_law) l14 c14 k14), PySem.W.mg_of X G a14, ((fun_mk (st := s_law) l14 c14 k14).binds (ps := ["script"]) fun _ _ _ _ _ _ us hl => match us, hl with | [_], _ => rfl)⟩,
    g_NOUGHT := PySem.W.mg_of X G g_NOUGHT,
    t_NOUGHT := tup_two l_NOUGHT,
    z_abs := PySem.W.mg_none_of X G z_abs,
    z_bool := PySem.W.mg_none_of X G z_bool,
    z_int := PySem.W.mg_none_of X G z_int,
    z_isinstance := PySem.W.mg_none_of X G z_isinstance,
    z_len := PySem.W.mg_none_of X G z_len,
    z_list := PySem.W.mg_none_of X G z_list,
    z_range := PySem.W.mg_none_of X G z_range,
    z_tuple := PySem.W.mg_none_of X G z_tuple }
  exact ⟨_, fun s v => .of_eq rfl, fun base _ _ => ok_law T (fun_mk (st := s_law) l14 c14 k14)⟩
end My
open PySem PySem.W PyProof.Rows
set_option maxRecDepth 100000 in
set_option maxHeartbeats 0 in
theorem PySem.Challenge.cw_greenturns_k05_the_longest_wait_holds : PySem.Challenge.rw_greenturns_k05_the_longest_wait.Holds := by
  w_on; o_law; k_head; (case hw => w_witness2)
  k_fill
  refine L2.walk_ofK (l := PySem.Challenge.rw_greenturns_k05_the_longest_wait) (n := 63) (k := 4) (x := "script") (CX := L2.CX0) (sp := GT.SpLaw) rfl (by decide) rfl ⟨rfl, by decide, by decide⟩ (fun w h Y => PySem.W.kIn_of Y) ?F (fun K H a ns hl _ hS => GT.spLaw_of K H a ns hl hS) (fun _ _ _ _ h => h)
  case F =>
    intro w mg fa h KX G hmg
    refine' My.all_mk KX G hmg ?g_NOUGHT ?l_NOUGHT ?z_abs ?z_bool ?z_int ?z_isinstance ?z_len ?z_list ?z_range ?z_tuple ?a1 ?l1 ?c1 ?k1 ?a2 ?l2 ?c2 ?k2 ?a3 ?l3 ?c3 ?k3 ?a4 ?l4 ?c4 ?k4 ?a5 ?l5 ?c5 ?k5 ?a6 ?l6 ?c6 ?k6 ?a7 ?l7 ?c7 ?k7 ?a8 ?l8 ?c8 ?k8 ?a9 ?l9 ?c9 ?k9 ?a10 ?l10 ?c10 ?k10 ?a11 ?l11 ?c11 ?k11 ?a12 ?l12 ?c12 ?k12 ?a13 ?l13 ?c13 ?k13 ?a14 ?l14 ?c14 ?k14
    (case g_NOUGHT => k_is)
    (case l_NOUGHT => k_is)
    (case z_abs => k_is)
    (case z_bool => k_is)
    (case z_int => k_is)
    (case z_isinstance => k_is)
    (case z_len => k_is)
    (case z_list => k_is)
    (case z_range => k_is)
    (case z_tuple => k_is)
    (case a1 => k_is)
    (case l1 => k_is)
    (case c1 => k_is)
    (case k1 => k_is)
    (case a2 => k_is)
    (case l2 => k_is)
    (case c2 => k_is)
    (case k2 => k_is)
    (case a3 => k_is)
    (case l3 => k_is)
    (case c3 => k_is)
    (case k3 => k_is)
    (case a4 => k_is)
    (case l4 => k_is)
    (case c4 => k_is)
    (case k4 => k_is)
    (case a5 => k_is)
    (case l5 => k_is)
    (case c5 => k_is)
    (case k5 => k_is)
    (case a6 => k_is)
    (case l6 => k_is)
    (case c6 => k_is)
    (case k6 => k_is)
    (case a7 => k_is)
    (case l7 => k_is)
    (case c7 => k_is)
    (case k7 => k_is)
    (case a8 => k_is)
    (case l8 => k_is)
    (case c8 => k_is)
    (case k8 => k_is)
    (case a9 => k_is)
    (case l9 => k_is)
    (case c9 => k_is)
    (case k9 => k_is)
    (case a10 => k_is)
    (case l10 => k_is)
    (case c10 => k_is)
    (case k10 => k_is)
    (case a11 => k_is)
    (case l11 => k_is)
    (case c11 => k_is)
    (case k11 => k_is)
    (case a12 => k_is)
    (case l12 => k_is)
    (case c12 => k_is)
    (case k12 => k_is)
    (case a13 => k_is)
    (case l13 => k_is)
    (case c13 => k_is)
    (case k13 => k_is)
    (case a14 => k_is)
    (case l14 => k_is)
    (case c14 => k_is)
    (case k14 => k_is)
#print axioms PySem.Challenge.cw_greenturns_k05_the_longest_wait_holds
