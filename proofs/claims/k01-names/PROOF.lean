import PyProof.Rows.All
import Wide.All
import OpenK.AllK
import Wide.FinOn
import KE.KStateDown
import Lean
import HandS.ForMost
import HandS.Exc
import HandS.ExcOwn
import HandS.ExcInit
import HandS.ExcIs
import HandS.CallSlots
import HandS.Flow
import HandS.Style
import HandS.Wide
import HandS.Defaults
import HandS.TryOnly
import HandS.TupAny
import HandS.WordsExc
import HandS.Iter
import HandS.Walk
import HandS.Text
import HandS.IsInst
import HandS.ClsMeth
import KE.KExcInit
import KE.GoesEnum
import HandS.MakeKw
import HandS.Head0
import HandS.Head1
import HandS.Head2
import HandS.HeadEnd
import HandS.HeadHook1
import HandS.HeadHook2
import HandS.HeadHook3
import HandS.HeadHook4
import PySem.Challenge.RW_willdealt_k01_names_of_any_kind
set_option Elab.async false
set_option linter.all false
set_option maxRecDepth 100000
set_option maxHeartbeats 0
/-! The data layer, part 1: data, what stands where, readings of expressions and statements. -/
namespace L2.WD
open PySem PySem.Spec PyProof.Rows

inductive D where
  | non | bl (b : Bool) | int (i : Int) | str (s : Str)
  | tup (xs : List D) | lst (xs : List D) | dic (kvs : List (Key × D))
  | obj (c : Nat) (fs : List (Str × D)) | exc (c : Nat) (fs : List (Str × D))
  | cls (c : Nat) | fn (f : Nat) | ty (n : String) | scr (ns : List Int)

/-- what the written part gives: it, the module's names, where the classes and defs stand -/
structure Ev where
  K : PySem.W.Frag
  mg : Str → Option Value
  ca : Nat → Addr
  fa : Nat → Addr

/-- a caught exception that is kept: its class, its dict -/
def exh (C a : Addr) (od : Option Addr) : HO := .ext fun h => ∃ (oe : Obj) (vs : Array Value), h.get? a = some oe ∧ oe.cls = .ref C ∧ oe.dict = od ∧ oe.data = .fields vs

mutual
inductive DR (e : Ev) (G : Hp) : V → D → Prop
  | non : DR e G .non .non
  | bl (b : Bool) : DR e G (.bl b) (.bl b)
  | int (i : Int) : DR e G (.int i) (.int i)
  | str (s : Str) : DR e G (.str s) (.str s)
  | tup {a : Addr} {xs : List V} {ds : List D} : SqT e.K G a xs → DRs e G xs ds → DR e G (.ref a) (.tup ds)
  | lst {a : Addr} {xs : List V} {ds : List D} : G a = some (.lst xs) → DRs e G xs ds → DR e G (.ref a) (.lst ds)
  | scr {a : Addr} {ns : List Int} : SqL e.K G a (ns.map V.int) → DR e G (.ref a) (.scr ns)
  | dic {a : Addr} {kvs : List (Key × V)} {ds : List (Key × D)} : G a = some (.dK kvs) → DRk e G kvs ds → DR e G (.ref a) (.dic ds)
  | obj {a dx : Addr} {c : Nat} {fs : List (Str × V)} {ds : List (Str × D)} : G a = some (.ins (e.ca c) dx fs) → G dx = some (.own a) → DRf e G fs ds → DR e G (.ref a) (.obj c ds)
  | exc0 {a : Addr} {c : Nat} : G a = some (exh (e.ca c) a none) → DR e G (.ref a) (.exc c [])
  | exc1 {a dd : Addr} {c : Nat} {fs : List (Str × V)} {ds : List (Str × D)} : G a = some (exh (e.ca c) a (some dd)) → G dd = some (.xd fs) → DRf e G fs ds → DR e G (.ref a) (.exc c ds)
  | cls (c : Nat) : DR e G (.ref (e.ca c)) (.cls c)
  | fn (f : Nat) : DR e G (.ref (e.fa f)) (.fn f)
  | ty (n : String) : DR e G (.ty n) (.ty n)
inductive DRs (e : Ev) (G : Hp) : List V → List D → Prop
  | nil : DRs e G [] []
  | cons {v : V} {vs : List V} {d : D} {ds : List D} : DR e G v d → DRs e G vs ds → DRs e G (v :: vs) (d :: ds)
inductive DRk (e : Ev) (G : Hp) : List (Key × V) → List (Key × D) → Prop
  | nil : DRk e G [] []
  | cons {k : Key} {v : V} {vs : List (Key × V)} {d : D} {ds : List (Key × D)} : DR e G v d → DRk e G vs ds → DRk e G ((k, v) :: vs) ((k, d) :: ds)
inductive DRf (e : Ev) (G : Hp) : List (Str × V) → List (Str × D) → Prop
  | nil : DRf e G [] []
  | cons {k : Str} {v : V} {vs : List (Str × V)} {d : D} {ds : List (Str × D)} : DR e G v d → DRf e G vs ds → DRf e G ((k, v) :: vs) ((k, d) :: ds)
end

theorem Same.seqT {K : PySem.W.Frag} {H H' : Hp} {a : Addr} {xs : List V} (e : L2.Same H H') (h : SqT K H a xs) : SqT K H' a xs := by
  rcases h with h | h
  · rcases h with h | ⟨o, h⟩
    · exact .inl (.inl (e _ _ h))
    · exact .inl (.inr ⟨o, e _ _ h⟩)
  · exact .inr h
theorem Same.seqL {K : PySem.W.Frag} {H H' : Hp} {a : Addr} {xs : List V} (e : L2.Same H H') (h : SqL K H a xs) : SqL K H' a xs := by
  rcases h with h | h
  · rcases h with h | ⟨o, h⟩
    · exact .inl (.inl (e _ _ h))
    · exact .inl (.inr ⟨o, e _ _ h⟩)
  · exact .inr h

section
variable {e : Ev} {G G' : Hp}
mutual
theorem DR.mono (s : L2.Same G G') : ∀ {v : V} {d : D}, DR e G v d → DR e G' v d
  | _, _, .non => .non
  | _, _, .bl b => .bl b
  | _, _, .int i => .int i
  | _, _, .str x => .str x
  | _, _, .tup h r => .tup (Same.seqT s h) (DRs.mono s r)
  | _, _, .lst h r => .lst (s _ _ h) (DRs.mono s r)
  | _, _, .scr h => .scr (Same.seqL s h)
  | _, _, .dic h r => .dic (s _ _ h) (DRk.mono s r)
  | _, _, .obj h h' r => .obj (s _ _ h) (s _ _ h') (DRf.mono s r)
  | _, _, .exc0 h => .exc0 (s _ _ h)
  | _, _, .exc1 h h' r => .exc1 (s _ _ h) (s _ _ h') (DRf.mono s r)
  | _, _, .cls c => .cls c
  | _, _, .fn f => .fn f
  | _, _, .ty n => .ty n
theorem DRs.mono (s : L2.Same G G') : ∀ {v : List V} {d : List D}, DRs e G v d → DRs e G' v d
  | _, _, .nil => .nil
  | _, _, .cons h r => .cons (DR.mono s h) (DRs.mono s r)
theorem DRk.mono (s : L2.Same G G') : ∀ {v : List (Key × V)} {d : List (Key × D)}, DRk e G v d → DRk e G' v d
  | _, _, .nil => .nil
  | _, _, .cons h r => .cons (DR.mono s h) (DRk.mono s r)
theorem DRf.mono (s : L2.Same G G') : ∀ {v : List (Str × V)} {d : List (Str × D)}, DRf e G v d → DRf e G' v d
  | _, _, .nil => .nil
  | _, _, .cons h r => .cons (DR.mono s h) (DRf.mono s r)
end
end

section
variable {e : Ev} {G : Hp}
theorem DRs.length : ∀ {vs : List V} {ds : List D}, DRs e G vs ds → vs.length = ds.length
  | _, _, .nil => rfl
  | _, _, .cons _ r => congrArg Nat.succ (DRs.length r)
theorem DRs.get : ∀ {vs : List V} {ds : List D} {i : Nat} {d : D}, DRs e G vs ds → ds[i]? = some d → ∃ v, vs[i]? = some v ∧ DR e G v d
  | _, _, _, _, .nil, h => by simp at h
  | _, _, 0, _, .cons r _, h => by simp at h; subst h; exact ⟨_, rfl, r⟩
  | _, _, i + 1, d, .cons _ t, h => by
    obtain ⟨v, h1, h2⟩ := DRs.get (i := i) (d := d) t (by simpa using h)
    exact ⟨v, by simpa using h1, h2⟩
theorem DRs.append : ∀ {vs ws : List V} {ds es : List D}, DRs e G vs ds → DRs e G ws es → DRs e G (vs ++ ws) (ds ++ es)
  | _, _, _, _, .nil, s => s
  | _, _, _, _, .cons r t, s => .cons r (DRs.append t s)
theorem DRs.take : ∀ {vs : List V} {ds : List D} (n : Nat), DRs e G vs ds → DRs e G (vs.take n) (ds.take n)
  | _, _, 0, _ => by simp; exact .nil
  | _, _, n + 1, .nil => by simp; exact .nil
  | _, _, n + 1, .cons r t => by simp; exact .cons r (DRs.take n t)
theorem DRs.drop : ∀ {vs : List V} {ds : List D} (n : Nat), DRs e G vs ds → DRs e G (vs.drop n) (ds.drop n)
  | _, _, 0, r => by simpa using r
  | _, _, n + 1, .nil => by simp; exact .nil
  | _, _, n + 1, .cons r t => by simp; exact DRs.drop n t
theorem DRs.set {v : V} {d : D} (h : DR e G v d) : ∀ {vs : List V} {ds : List D} (n : Nat), DRs e G vs ds → DRs e G (vs.set n v) (ds.set n d)
  | _, _, _, .nil => .nil
  | _, _, 0, .cons _ t => .cons h t
  | _, _, n + 1, .cons r t => .cons r (DRs.set h n t)
theorem DRs.ints : ∀ {vs : List V} {ns : List Int}, DRs e G vs (ns.map D.int) → vs = ns.map V.int
  | _, [], h => by cases h; rfl
  | _, n :: ns, h => by
    cases h with
    | cons r t =>
      cases r
      rw [DRs.ints t, List.map_cons]
theorem DRs.of_ints : ∀ (ns : List Int), DRs e G (ns.map V.int) (ns.map D.int)
  | [] => .nil
  | n :: ns => .cons (.int n) (DRs.of_ints ns)
theorem DRs.bls : ∀ {vs : List V} {ns : List Bool}, DRs e G vs (ns.map D.bl) → vs = ns.map V.bl
  | _, [], h => by cases h; rfl
  | _, n :: ns, h => by
    cases h with
    | cons r t =>
      cases r
      rw [DRs.bls t, List.map_cons]
theorem DRs.strs : ∀ {vs : List V} {ns : List Str}, DRs e G vs (ns.map D.str) → vs = ns.map V.str
  | _, [], h => by cases h; rfl
  | _, n :: ns, h => by
    cases h with
    | cons r t =>
      cases r
      rw [DRs.strs t, List.map_cons]
theorem DRs.of_strs : ∀ (ns : List Str), DRs e G (ns.map V.str) (ns.map D.str)
  | [] => .nil
  | n :: ns => .cons (.str n) (DRs.of_strs ns)
theorem DRf.lookup {f : Str} : ∀ {vs : List (Str × V)} {ds : List (Str × D)} {d : D}, DRf e G vs ds → ds.lookup f = some d → ∃ v, vs.lookup f = some v ∧ DR e G v d
  | _, _, _, .nil, h => by cases h
  | _, _, d, .cons (k := k) (v := v) r t, h => by
    rw [List.lookup_cons] at h ⊢
    cases q : (f == k) with
    | true =>
      rw [q] at h
      cases h
      exact ⟨v, rfl, r⟩
    | false =>
      rw [q] at h
      exact DRf.lookup t h
theorem DRf.lookup_none {f : Str} : ∀ {vs : List (Str × V)} {ds : List (Str × D)}, DRf e G vs ds → ds.lookup f = none → vs.lookup f = none
  | _, _, .nil, _ => rfl
  | _, _, .cons (k := k) r t, h => by
    rw [List.lookup_cons] at h ⊢
    cases q : (f == k) with
    | true => rw [q] at h; cases h
    | false =>
      rw [q] at h
      exact DRf.lookup_none t h
theorem DRf.length : ∀ {vs : List (Str × V)} {ds : List (Str × D)}, DRf e G vs ds → vs.length = ds.length
  | _, _, .nil => rfl
  | _, _, .cons _ r => congrArg Nat.succ (DRf.length r)
end

/-! ### slots -/
/-- what a slot holds: nothing known, a thing that stays as it is, a list (an instance) of one's own (p: of the caller's) -/
inductive Sl where
  | no | fz (d : D) | ow (p : Bool) (xs : List D) | oo (p : Bool) (c : Nat) (fs : List (Str × D))

def Sl.owned : Sl → Bool
  | .ow _ _ => true
  | .oo _ _ _ => true
  | _ => false
def Sl.mine : Sl → Bool
  | .ow p _ => p
  | .oo p _ _ => p
  | _ => false
/-- the things of the own list, instance -/
inductive OwR (e : Ev) (Fo G H : Hp) (b : Addr) : Sl → Prop
  | ow {p : Bool} {vs : List V} {xs : List D} : H b = some (.lst vs) → DRs e G vs xs → G b = none → Fo b = none → OwR e Fo G H b (.ow p xs)
  | oo {p : Bool} {c : Nat} {dx : Addr} {ws : List (Str × V)} {fs : List (Str × D)} : H b = some (.ins (e.ca c) dx ws) → H dx = some (.own b) → DRf e G ws fs → G b = none → G dx = none → Fo b = none → Fo dx = none → OwR e Fo G H b (.oo p c fs)
/-- a value and what it is said to be -/
inductive SlR (e : Ev) (Fo G H : Hp) : Option V → Sl → Prop
  | no {o : Option V} : SlR e Fo G H o .no
  | fz {v : V} {d : D} : DR e G v d → SlR e Fo G H (some v) (.fz d)
  | own {b : Addr} {s : Sl} : OwR e Fo G H b s → SlR e Fo G H (some (.ref b)) s

inductive SlRs (e : Ev) (Fo G H : Hp) : St → List Sl → Prop
  | nil : SlRs e Fo G H [] []
  | cons {o : Option V} {s : Sl} {σ : St} {ρ : List Sl} : SlR e Fo G H o s → SlRs e Fo G H σ ρ → SlRs e Fo G H (o :: σ) (s :: ρ)

/-- no two own things are one -/
def Apart (σ : St) (ρ : List Sl) : Prop := ∀ (i j : Nat) (b : Addr) (s t : Sl), ρ[i]? = some s → ρ[j]? = some t → s.owned = true → t.owned = true → σ[i]? = some (some (V.ref b)) → σ[j]? = some (some (V.ref b)) → i = j

structure Rel (e : Ev) (Fo G : Hp) (σ : St) (H : Hp) (ρ : List Sl) : Prop where
  gh : L2.Same G H
  fh : L2.Same Fo H
  fg : ∀ b o, Fo b = some o → G b = none
  sl : SlRs e Fo G H σ ρ
  ap : Apart σ ρ

/-- a value that was made: a thing, or one's own, which no slot has -/
def Val (e : Ev) (Fo G : Hp) (σ : St) (H : Hp) (ρ : List Sl) (v : V) (s : Sl) : Prop :=
  SlR e Fo G H (some v) s ∧ s.mine = false ∧ (s.owned = true → ∀ (b : Addr) (i : Nat) (t : Sl), v = V.ref b → ρ[i]? = some t → t.owned = true → σ[i]? ≠ some (some (V.ref b)))

theorem SlRs.get {e : Ev} {Fo G H : Hp} : ∀ {σ : St} {ρ : List Sl} {i : Nat} {s : Sl}, SlRs e Fo G H σ ρ → ρ[i]? = some s → ∃ o, σ[i]? = some o ∧ SlR e Fo G H o s
  | _, _, _, _, .nil, h => by simp at h
  | _, _, 0, _, .cons r _, h => by simp at h; subst h; exact ⟨_, rfl, r⟩
  | _, _, i + 1, s, .cons _ t, h => by
    obtain ⟨v, h1, h2⟩ := SlRs.get (i := i) (s := s) t (by simpa using h)
    exact ⟨v, by simpa using h1, h2⟩
theorem SlRs.length {e : Ev} {Fo G H : Hp} : ∀ {σ : St} {ρ : List Sl}, SlRs e Fo G H σ ρ → σ.length = ρ.length
  | _, _, .nil => rfl
  | _, _, .cons _ t => congrArg Nat.succ (SlRs.length t)
theorem SlRs.set {e : Ev} {Fo G H : Hp} {o : Option V} {s : Sl} (h : SlR e Fo G H o s) : ∀ {σ : St} {ρ : List Sl} (i : Nat), SlRs e Fo G H σ ρ → SlRs e Fo G H (σ.set i o) (ρ.set i s)
  | _, _, _, .nil => .nil
  | _, _, 0, .cons _ t => .cons h t
  | _, _, i + 1, .cons r t => .cons r (SlRs.set h i t)
/-- a slot is said to be something else, the value staying -/
theorem SlRs.setR {e : Ev} {Fo G H : Hp} {s : Sl} : ∀ {σ : St} {ρ : List Sl} (i : Nat), SlRs e Fo G H σ ρ → (∀ o, σ[i]? = some o → SlR e Fo G H o s) → SlRs e Fo G H σ (ρ.set i s)
  | _, _, _, .nil, _ => .nil
  | _, _, 0, .cons _ t, h => .cons (h _ rfl) t
  | _, _, i + 1, .cons r t, h => .cons r (SlRs.setR i t fun o q => h o (by simpa using q))
theorem SlRs.imp {e : Ev} {Fo G H Fo' G' H' : Hp} : ∀ {σ : St} {ρ : List Sl}, SlRs e Fo G H σ ρ → (∀ (i : Nat) (o : Option V) (s : Sl), σ[i]? = some o → ρ[i]? = some s → SlR e Fo G H o s → SlR e Fo' G' H' o s) → SlRs e Fo' G' H' σ ρ
  | _, _, .nil, _ => .nil
  | _, _, .cons r t, h => .cons (h 0 _ _ rfl rfl r) (SlRs.imp t fun i o s h1 h2 => h (i + 1) o s (by simpa using h1) (by simpa using h2))

section
variable {e : Ev} {Fo G G' H H' : Hp} {σ : St} {ρ : List Sl} {p : Addr} {o : HO} {v : V} {d : D} {s : Sl}
theorem OwR.at (h : OwR e Fo G H p s) : (∃ o, H p = some o ∧ Mut (some o)) ∧ G p = none ∧ Fo p = none ∧ s.owned = true := by
  cases h with
  | ow h1 h2 h3 h4 => exact ⟨⟨_, h1, trivial⟩, h3, h4, rfl⟩
  | oo h1 h2 h3 h4 h5 h6 h7 => exact ⟨⟨_, h1, trivial⟩, h4, h6, rfl⟩
theorem SlR.owned {o : Option V} (h : SlR e Fo G H o s) (hs : s.owned = true) : ∃ b, o = some (.ref b) ∧ OwR e Fo G H b s := by
  cases h with
  | no => cases hs
  | fz _ => cases hs
  | own q => exact ⟨_, rfl, q⟩
theorem OwR.grow (h : OwR e Fo G H p s) (g : L2.Same G G') (hh : L2.Same H H') (n : ∀ b, H b ≠ none → G b = none → G' b = none) : OwR e Fo G' H' p s := by
  cases h with
  | ow h1 h2 h3 h4 => exact .ow (hh _ _ h1) (h2.mono g) (n _ (by rw [h1]; exact fun z => nomatch z) h3) h4
  | oo h1 h2 h3 h4 h5 h6 h7 => exact .oo (hh _ _ h1) (hh _ _ h2) (h3.mono g) (n _ (by rw [h1]; exact fun z => nomatch z) h4) (n _ (by rw [h2]; exact fun z => nomatch z) h5) h6 h7
theorem SlR.grow {o : Option V} (h : SlR e Fo G H o s) (g : L2.Same G G') (hh : L2.Same H H') (n : ∀ b, H b ≠ none → G b = none → G' b = none) : SlR e Fo G' H' o s := by
  cases h with
  | no => exact .no
  | fz r => exact .fz (r.mono g)
  | own q => exact .own (q.grow g hh n)
/-- the heap and what is known of it grow -/
theorem Rel.grow (R : Rel e Fo G σ H ρ) (g : L2.Same G G') (hh : L2.Same H H') (gh : L2.Same G' H') (n : ∀ b, H b ≠ none → G b = none → G' b = none) : Rel e Fo G' σ H' ρ :=
  ⟨gh, R.fh.trans hh, fun b o h => n b (by rw [R.fh _ _ h]; exact fun z => nomatch z) (R.fg b o h), R.sl.imp fun i o s _ _ r => r.grow g hh n, R.ap⟩
theorem Rel.gnone (R : Rel e Fo G σ H ρ) (n : H p = none) : G p = none := by
  cases q : G p with
  | none => rfl
  | some o => rw [R.gh _ _ q] at n; cases n
theorem Rel.fnone (R : Rel e Fo G σ H ρ) (n : H p = none) : Fo p = none := by
  cases q : Fo p with
  | none => rfl
  | some o => rw [R.fh _ _ q] at n; cases n
theorem same_upd (n : H p = none) : L2.Same H (upd H p o) := fun b u q => by
  rw [upd_ne (ne_of_none q n)]
  exact q
/-- a new object is laid, not known of -/
theorem Rel.lay (R : Rel e Fo G σ H ρ) (n : H p = none) : Rel e Fo G σ (upd H p o) ρ :=
  R.grow (L2.Same.refl _) (same_upd n) (R.gh.trans (same_upd n)) fun _ _ h => h
/-- a new object is laid, and known of -/
theorem Rel.lay2 (R : Rel e Fo G σ H ρ) (n : H p = none) : Rel e Fo (upd G p o) σ (upd H p o) ρ :=
  R.grow (same_upd (R.gnone n)) (same_upd n) (fun b u q => by
    by_cases hb : b = p
    · subst hb
      rw [upd_same] at q ⊢
      exact q
    · rw [upd_ne hb] at q ⊢
      exact R.gh _ _ q) fun b hb h => by
    rw [upd_ne (fun z => hb (by rw [z]; exact n))]
    exact h
/-- .. where it is laid already, no one's own -/
theorem Rel.know (R : Rel e Fo G σ H ρ) (h : H p = some o) (hf : Fo p = none) (hg : G p = none) (hn : ∀ (i : Nat) (s : Sl) (b dx : Addr), ρ[i]? = some s → s.owned = true → σ[i]? = some (some (V.ref b)) → b ≠ p ∧ (H dx = some (.own b) → dx ≠ p)) : Rel e Fo (upd G p o) σ H ρ :=
  ⟨fun b u q => by
    by_cases hb : b = p
    · subst hb
      rw [upd_same] at q
      rw [← q]
      exact h
    · rw [upd_ne hb] at q
      exact R.gh _ _ q, R.fh, fun b u q => by
    rw [upd_ne (ne_of_none q hf)]
    exact R.fg b u q, R.sl.imp fun i o s h1 h2 r => by
    cases r with
    | no => exact .no
    | fz r => exact .fz (r.mono (same_upd hg))
    | own q =>
      have ho := q.at.2.2.2
      have hne := fun dx => hn i s _ dx h2 ho h1
      cases q with
      | ow k1 k2 k3 k4 => exact .own (.ow k1 (k2.mono (same_upd hg)) (by rw [upd_ne (hne 0).1]; exact k3) k4)
      | oo k1 k2 k3 k4 k5 k6 k7 => exact .own (.oo k1 k2 (k3.mono (same_upd hg)) (by rw [upd_ne (hne 0).1]; exact k4) (by rw [upd_ne ((hne _).2 k2)]; exact k5) k6 k7), R.ap⟩
theorem Rel.get {i : Nat} (R : Rel e Fo G σ H ρ) (h : ρ[i]? = some s) : ∃ o, σ[i]? = some o ∧ SlR e Fo G H o s := R.sl.get h
theorem Rel.len (R : Rel e Fo G σ H ρ) : σ.length = ρ.length := R.sl.length
end
end L2.WD
/-! The data layer, part 2: what an expression and a statement come to; the readings; the plain statements. -/
namespace L2.WD
open PySem PySem.Spec PyProof.Rows

/-- what an expression, a call comes to: the slots behind it, and its value -/
inductive Re (α : Type) where
  | ok (ρ : List Sl) (a : α) | exc (ρ : List Sl) (c : Nat) (fs : List (Str × D)) | bad
/-- what a statement comes to -/
inductive Out where
  | nx (ρ : List Sl) | rt (ρ : List Sl) (s : Sl) | bk (ρ : List Sl) | ct (ρ : List Sl) | exc (ρ : List Sl) (c : Nat) (fs : List (Str × D)) | bad
@[reducible] def Mo (α : Type) : Type := List Sl → Re α
def Mo.bind {α γ : Type} (f : Mo α) (k : α → Mo γ) : Mo γ := fun ρ => match f ρ with
  | .ok ρ' a => k a ρ'
  | .exc ρ' c fs => .exc ρ' c fs
  | .bad => .bad
def Mo.pure {α : Type} (a : α) : Mo α := fun ρ => .ok ρ a

def Keep (ρ ρ' : List Sl) : Prop := ∀ (i : Nat) (s : Sl), ρ[i]? = some s → s.mine = true → ∃ s', ρ'[i]? = some s' ∧ s'.mine = true
theorem Keep.refl (ρ : List Sl) : Keep ρ ρ := fun _ s h m => ⟨s, h, m⟩
theorem Keep.trans {ρ ρ1 ρ2 : List Sl} (a : Keep ρ ρ1) (b : Keep ρ1 ρ2) : Keep ρ ρ2 := fun i s h m => by
  obtain ⟨s1, h1, m1⟩ := a i s h m
  exact b i s1 h1 m1
def KeepS (σ : St) (ρ : List Sl) (σ' : St) (ρ' : List Sl) : Prop := ∀ (i : Nat) (s : Sl), ρ[i]? = some s → s.mine = true → σ'[i]? = σ[i]? ∧ ∃ s', ρ'[i]? = some s' ∧ s'.mine = true
theorem KeepS.refl (σ : St) (ρ : List Sl) : KeepS σ ρ σ ρ := fun _ s h m => ⟨rfl, s, h, m⟩
theorem Keep.toS {σ : St} {ρ ρ' : List Sl} (k : Keep ρ ρ') : KeepS σ ρ σ ρ' := fun i s h m => ⟨rfl, k i s h m⟩
theorem KeepS.trans {σ σ1 σ2 : St} {ρ ρ1 ρ2 : List Sl} (a : KeepS σ ρ σ1 ρ1) (b : KeepS σ1 ρ1 σ2 ρ2) : KeepS σ ρ σ2 ρ2 := fun i s h m => by
  obtain ⟨e1, s1, h1, m1⟩ := a i s h m
  obtain ⟨e2, r⟩ := b i s1 h1 m1
  exact ⟨e2.trans e1, r⟩

/-- an exception in the air -/
inductive ExcR (e : Ev) (G : Hp) (c : Nat) : List (Str × D) → Value → Option Addr → Prop
  | e0 : ExcR e G c [] (.ref (e.ca c)) none
  | e1 {dd : Addr} {ws : List (Str × V)} {fs : List (Str × D)} : G dd = some (.xd ws) → DRf e G ws fs → ExcR e G c fs (.ref (e.ca c)) (some dd)

abbrev RlT (α β : Type) : Type := Ev → Hp → Hp → St → Hp → List Sl → β → α → Prop
section
variable {α β γ δ : Type}
def PostE (e : Ev) (W : WX) (Fo G : Hp) (σ : St) (ρ ρ' : List Sl) (c : Nat) (fs : List (Str × D)) : Prop :=
  ∀ (G' H' : Hp) (cls : Value) (od : Option Addr), L2.Same G G' → Keep ρ ρ' → Rel e Fo G' σ H' ρ' → ExcR e G' c fs cls od → W cls od σ H'
def Post (e : Ev) (W : WX) (Rl : RlT α β) (Fo G : Hp) (σ : St) (ρ : List Sl) (r : Re α) (Q : β → Hp → Prop) : Prop := match r with
  | .ok ρ' a => ∀ (G' H' : Hp) (v : β), L2.Same G G' → Keep ρ ρ' → Rel e Fo G' σ H' ρ' → Rl e Fo G' σ H' ρ' v a → Q v H'
  | .exc ρ' c fs => PostE e W Fo G σ ρ ρ' c fs
  | .bad => False
def tG (e : Ev) (W : WX) (Rl : RlT α β) (f : Mo α) : St → Hp → (β → Hp → Prop) → Prop := fun σ H Q =>
  ∃ (Fo G : Hp) (ρ : List Sl), Rel e Fo G σ H ρ ∧ Post e W Rl Fo G σ ρ (f ρ) Q
variable {e : Ev} {W : WX} {Rl : RlT α β} {Rl2 : RlT γ δ} {Fo G G' H H' : Hp} {σ : St} {ρ ρ' : List Sl}
theorem PostE.from {ρ2 : List Sl} {c : Nat} {fs : List (Str × D)} (h : PostE e W Fo G σ ρ ρ2 c fs) (g : L2.Same G G') (k : Keep ρ ρ') : PostE e W Fo G' σ ρ' ρ2 c fs :=
  fun G2 H2 cls od g2 k2 => h G2 H2 cls od (g.trans g2) (k.trans k2)
theorem Post.from {r : Re α} {Q : β → Hp → Prop} (h : Post e W Rl Fo G σ ρ r Q) (g : L2.Same G G') (k : Keep ρ ρ') : Post e W Rl Fo G' σ ρ' r Q := by
  cases r with
  | ok ρ2 a => exact fun G2 H2 v g2 k2 => h G2 H2 v (g.trans g2) (k.trans k2)
  | exc ρ2 c fs => exact PostE.from h g k
  | bad => exact h
theorem Post.mono {r : Re α} {Q Q' : β → Hp → Prop} (h : Post e W Rl Fo G σ ρ r Q) (q : ∀ v H, Q v H → Q' v H) : Post e W Rl Fo G σ ρ r Q' := by
  cases r with
  | ok ρ2 a => exact fun G2 H2 v g2 k2 R r => q _ _ (h G2 H2 v g2 k2 R r)
  | exc ρ2 c fs => exact h
  | bad => exact h
theorem tG.mono {f : Mo α} {Q Q' : β → Hp → Prop} (h : tG e W Rl f σ H Q) (q : ∀ v H, Q v H → Q' v H) : tG e W Rl f σ H Q' := by
  obtain ⟨Fo, G, ρ, R, p⟩ := h
  exact ⟨Fo, G, ρ, R, p.mono q⟩
/-- an expression ahead of the rest -/
theorem Post.bind {f : Mo α} {k : α → Mo γ} {Q : δ → Hp → Prop} (R : Rel e Fo G σ H ρ) (h : Post e W Rl2 Fo G σ ρ (Mo.bind f k ρ) Q) :
    tG e W Rl f σ H fun v H1 => ∃ (G' : Hp) (ρ' : List Sl) (a : α), L2.Same G G' ∧ Rel e Fo G' σ H1 ρ' ∧ Rl e Fo G' σ H1 ρ' v a ∧ Post e W Rl2 Fo G' σ ρ' (k a ρ') Q := by
  refine ⟨Fo, G, ρ, R, ?_⟩
  unfold Mo.bind at h
  cases q : f ρ with
  | ok ρ1 a =>
    rw [q] at h
    exact fun G' H' v g kp R' r => ⟨G', ρ1, a, g, R', r, h.from g kp⟩
  | exc ρ1 c fs =>
    rw [q] at h
    exact h
  | bad =>
    rw [q] at h
    exact h
/-- the end, nothing having changed -/
theorem Post.here {a : α} {Q : β → Hp → Prop} {v : β} (R : Rel e Fo G σ H ρ) (h : Post e W Rl Fo G σ ρ (.ok ρ a) Q) (r : Rl e Fo G σ H ρ v a) : Q v H := h G H v (L2.Same.refl _) (Keep.refl _) R r
end

/-! ### operands -/
/-- an operand: a thing, or what slot i holds -/
inductive Ar where
  | vl (d : D) | sl (i : Nat)
def ArR : RlT Ar V := fun e _ G σ _ _ v a => match a with
  | .vl d => DR e G v d
  | .sl i => σ[i]? = some (some v)
inductive ArRs (e : Ev) (G : Hp) (σ : St) : List V → List Ar → Prop
  | nil : ArRs e G σ [] []
  | cons {v : V} {a : Ar} {vs : List V} {as : List Ar} : ArR e G G σ G [] v a → ArRs e G σ vs as → ArRs e G σ (v :: vs) (a :: as)
def ArRsL : RlT (List Ar) (List V) := fun e _ G σ _ _ vs as => ArRs e G σ vs as
def TRl : RlT Bool Bool := fun _ _ _ _ _ _ v a => v = a
abbrev tX (e : Ev) (W : WX) (f : Mo Sl) : TE := tG e W (fun e Fo G σ H ρ v s => Val e Fo G σ H ρ v s) f
abbrev tO (e : Ev) (W : WX) (f : Mo Ar) : TE := tG e W ArR f
abbrev tA (e : Ev) (W : WX) (f : Mo (List Ar)) : TA := tG e W ArRsL f
abbrev tT (e : Ev) (W : WX) (f : Mo Bool) : TT := tG e W TRl f
/-- what an operand is, the slots being so -/
def con (ρ : List Sl) : Ar → Option D
  | .vl d => some d
  | .sl i => match ρ[i]? with
    | some (.fz d) => some d
    | some (.ow _ xs) => some (.lst xs)
    | _ => none
/-- a thing that is read: it stays, or it is an own list -/
inductive CoR (e : Ev) (G H : Hp) : V → D → Prop
  | st {v : V} {d : D} : DR e G v d → CoR e G H v d
  | ow {b : Addr} {ws : List V} {xs : List D} : H b = some (.lst ws) → DRs e G ws xs → CoR e G H (.ref b) (.lst xs)
section
variable {e : Ev} {W : WX} {Fo G G' H H' : Hp} {σ : St} {ρ ρ' : List Sl}
theorem ArR.mono {v : V} {a : Ar} {Fo' H' : Hp} {ρ' : List Sl} (h : ArR e Fo G σ H ρ v a) (g : L2.Same G G') : ArR e Fo' G' σ H' ρ' v a := by
  cases a with
  | vl d => exact DR.mono g h
  | sl i => exact h
theorem ArRs.mono (g : L2.Same G G') : ∀ {vs : List V} {as : List Ar}, ArRs e G σ vs as → ArRs e G' σ vs as
  | _, _, .nil => .nil
  | _, _, .cons h r => .cons (ArR.mono h g) (ArRs.mono g r)
theorem ArR.co {v : V} {a : Ar} {d : D} (R : Rel e Fo G σ H ρ) (h : ArR e Fo G σ H ρ v a) (c : con ρ a = some d) : CoR e G H v d := by
  cases a with
  | vl d' =>
    cases c
    exact .st h
  | sl i =>
    have hs : σ[i]? = some (some v) := h
    unfold con at c
    cases q : ρ[i]? with
    | none => simp only [q] at c; cases c
    | some s =>
      simp only [q] at c
      obtain ⟨o, h1, h2⟩ := R.get q
      rw [hs] at h1
      cases h1
      cases s with
      | no => cases c
      | fz d' =>
        cases c
        cases h2 with
        | fz r => exact .st r
        | own r => cases r
      | ow p xs =>
        cases c
        cases h2 with
        | own r =>
          cases r with
          | ow k1 k2 k3 k4 => exact .ow k1 k2
      | oo p c fs => cases c
theorem CoR.lst {v : V} {xs : List D} (g : L2.Same G H) (h : CoR e G H v (.lst xs)) : ∃ b ws, v = .ref b ∧ H b = some (.lst ws) ∧ DRs e G ws xs := by
  cases h with
  | st r =>
    cases r with
    | lst a b => exact ⟨_, _, rfl, g _ _ a, b⟩
  | ow a b => exact ⟨_, _, rfl, a, b⟩
theorem CoR.tup {v : V} {xs : List D} (g : L2.Same G H) (h : CoR e G H v (.tup xs)) : ∃ b ws, v = .ref b ∧ SqT e.K H b ws ∧ DRs e G ws xs := by
  cases h with
  | st r =>
    cases r with
    | tup a b => exact ⟨_, _, rfl, Same.seqT g a, b⟩
theorem CoR.scr {v : V} {ns : List Int} (g : L2.Same G H) (h : CoR e G H v (.scr ns)) : ∃ b, v = .ref b ∧ SqL e.K H b (ns.map V.int) := by
  cases h with
  | st r =>
    cases r with
    | scr a => exact ⟨_, rfl, Same.seqL g a⟩
theorem CoR.int {v : V} {i : Int} (h : CoR e G H v (.int i)) : v = .int i := by
  cases h with
  | st r => cases r; rfl
theorem CoR.bl {v : V} {i : Bool} (h : CoR e G H v (.bl i)) : v = .bl i := by
  cases h with
  | st r => cases r; rfl
theorem CoR.str {v : V} {i : Str} (h : CoR e G H v (.str i)) : v = .str i := by
  cases h with
  | st r => cases r; rfl
theorem CoR.non {v : V} (h : CoR e G H v .non) : v = .non := by
  cases h with
  | st r => cases r; rfl
theorem CoR.dr {v : V} {d : D} (h : CoR e G H v d) (n : ∀ xs, d ≠ .lst xs) : DR e G v d := by
  cases h with
  | st r => exact r
  | ow a b => exact absurd rfl (n _)
end

/-! ### contexts -/
structure EC (X : Cx) (e : Ev) (W : WX) : Prop where
  K : X.K = e.K
  mg : X.mg = e.mg
  nd : X.N.Nodup
  tk : Takes X W
  hp : PassesOwn (model X.prog X.w) X.A X.env X.xe

/-! ### what a made thing is -/
/-- a thing made by an operation that keeps what stood: it stays, or is a new list of one's own -/
def New (e : Ev) (H G' H' : Hp) (v : V) : Sl → Prop
  | .fz d => DR e G' v d
  | .ow p xs => p = false ∧ ∃ b ws, v = .ref b ∧ H b = none ∧ H' b = some (.lst ws) ∧ DRs e G' ws xs ∧ G' b = none
  | _ => False
/-- growth -/
structure Gr (G H G' H' : Hp) : Prop where
  g : L2.Same G G'
  h : L2.Same H H'
  gh : L2.Same G' H'
  n : ∀ b, H b ≠ none → G b = none → G' b = none
section
variable {e : Ev} {W : WX} {Fo G G' H H' : Hp} {σ : St} {ρ ρ' : List Sl} {p : Addr}
theorem Gr.refl (g : L2.Same G H) : Gr G H G H := ⟨L2.Same.refl _, L2.Same.refl _, g, fun _ _ h => h⟩
theorem Gr.lay {o : HO} (g : L2.Same G H) (n : H p = none) : Gr G H G (upd H p o) := ⟨L2.Same.refl _, same_upd n, g.trans (same_upd n), fun _ _ h => h⟩
theorem Gr.lay2 {o : HO} (g : L2.Same G H) (n : H p = none) : Gr G H (upd G p o) (upd H p o) := by
  have gn : G p = none := g.free n
  refine ⟨same_upd gn, same_upd n, fun b u q => ?_, fun b hb h => ?_⟩
  · by_cases hb : b = p
    · subst hb
      rw [upd_same] at q ⊢
      exact q
    · rw [upd_ne hb] at q ⊢
      exact g _ _ q
  · rw [upd_ne (fun z => hb (by rw [z]; exact n))]
    exact h
theorem Gr.trans {G2 H2 : Hp} (a : Gr G H G' H') (b : Gr G' H' G2 H2) : Gr G H G2 H2 :=
  ⟨a.g.trans b.g, a.h.trans b.h, b.gh, fun c hc h => b.n c (fun z => hc (a.h.free z)) (a.n c hc h)⟩
theorem Rel.gr (R : Rel e Fo G σ H ρ) (g : Gr G H G' H') : Rel e Fo G' σ H' ρ := R.grow g.g g.h g.gh g.n
theorem New.val {v : V} {s : Sl} (R : Rel e Fo G σ H ρ) (g : Gr G H G' H') (n : New e H G' H' v s) : Val e Fo G' σ H' ρ v s := by
  cases s with
  | no => exact n.elim
  | fz d => exact ⟨.fz n, rfl, fun z => nomatch z⟩
  | oo p c fs => exact n.elim
  | ow p xs =>
    obtain ⟨rfl, b, ws, rfl, h1, h2, h3, h4⟩ := n
    refine ⟨.own (.ow h2 h3 h4 (R.fnone h1)), rfl, fun _ c i t ev ht ho hs => ?_⟩
    cases ev
    obtain ⟨o, k1, k2⟩ := R.get ht
    rw [hs] at k1
    cases k1
    obtain ⟨b', e', k3⟩ := k2.owned ho
    cases e'
    obtain ⟨⟨o, k4, _⟩, _⟩ := k3.at
    rw [h1] at k4
    cases k4
/-- the end of an operation -/
theorem Post.new {s : Sl} {Q : VK} {v : V} (R : Rel e Fo G σ H ρ) (h : Post e W (fun e Fo G σ H ρ v s => Val e Fo G σ H ρ v s) Fo G σ ρ (.ok ρ s) Q) (g : Gr G H G' H') (n : New e H G' H' v s) : Q v H' :=
  h G' H' v g.g (Keep.refl _) (R.gr g) (n.val R g)
theorem Post.newO {d : D} {Q : VK} {v : V} (R : Rel e Fo G σ H ρ) (h : Post e W ArR Fo G σ ρ (.ok ρ (.vl d)) Q) (g : Gr G H G' H') (n : DR e G' v d) : Q v H' :=
  h G' H' v g.g (Keep.refl _) (R.gr g) n
end

/-! ### expressions: names, constants -/
def nmO (i : Nat) : Mo Ar := fun ρ => match ρ[i]? with
  | some (.fz _) => .ok ρ (.sl i)
  | some (.ow _ _) => .ok ρ (.sl i)
  | some (.oo _ _ _) => .ok ρ (.sl i)
  | _ => .bad
def cO (d : D) : Mo Ar := fun ρ => .ok ρ (.vl d)
def frz : Sl → Option D
  | .fz d => some d
  | .ow false xs => some (.lst xs)
  | .oo false c fs => some (.obj c fs)
  | _ => none
def frzD (f : Mo Sl) : Mo D := Mo.bind f fun s ρ => match frz s with
  | some d => .ok ρ d
  | none => .bad
def frzO (f : Mo Sl) : Mo Ar := Mo.bind (frzD f) fun d ρ => .ok ρ (.vl d)
def DRl : RlT D V := fun e _ G _ _ _ v d => DR e G v d
abbrev tD (e : Ev) (W : WX) (f : Mo D) : TE := tG e W DRl f
/-- an operand as a thing that stays -/
def valO (f : Mo Ar) : Mo Sl := Mo.bind f fun a ρ => match a with
  | .vl d => .ok ρ (.fz d)
  | .sl i => match ρ[i]? with
    | some (.fz d) => .ok ρ (.fz d)
    | _ => .bad
section
variable {X : Cx} {e : Ev} {W : WX} {ex : Expr} {pos : Pos}
theorem _root_.L2.PE.imp {t t' : TE} (h : PE X ex t) (i : ∀ σ H Q, t' σ H Q → t σ H Q) : PE X ex t' := ⟨fun pins s σ H Q I w => h.run pins s σ H Q I (i σ H Q w)⟩
theorem _root_.L2.PT.imp {t t' : TT} (h : PT X ex t) (i : ∀ σ H Q, t' σ H Q → t σ H Q) : PT X ex t' := ⟨fun pins s σ H Q I w => h.run pins s σ H Q I (i σ H Q w)⟩
theorem _root_.L2.PW.imp {t t' : TT} (h : PW X ex t) (i : ∀ σ H Q, t' σ H Q → t σ H Q) : PW X ex t' := ⟨fun wh pins s σ H Q I w => h.run wh pins s σ H Q I (i σ H Q w)⟩
theorem _root_.L2.PA.imp {es : List Expr} {t t' : TA} (h : PA X es t) (i : ∀ σ H Q, t' σ H Q → t σ H Q) : PA X es t' := ⟨fun p pins s σ H Q I w => h.run p pins s σ H Q I (i σ H Q w)⟩
theorem _root_.L2.PS.imp {st : Stmt} {t t' : TS} (h : PS X st t) (i : ∀ D σ H, t' D σ H → t D σ H) : PS X st t' := ⟨fun pins s σ H D I w => h.run pins s σ H D I (i D σ H w)⟩
theorem _root_.L2.PSs.imp {st : List Stmt} {t t' : TS} (h : PSs X st t) (i : ∀ D σ H, t' D σ H → t D σ H) : PSs X st t' := ⟨fun pins s σ H D I w => h.run pins s σ H D I (i D σ H w)⟩

theorem xo_name {i : Nat} {x : Str} (h : PE X (.Name x pos) (tVar i)) : PE X (.Name x pos) (tO e W (nmO i)) := h.imp fun σ H Q ⟨Fo, G, ρ, R, p⟩ => by
  unfold nmO at p
  cases q : ρ[i]? with
  | none => rw [q] at p; exact p.elim
  | some s =>
    rw [q] at p
    obtain ⟨o, h1, h2⟩ := R.get q
    cases s with
    | no => exact p.elim
    | fz d =>
      cases h2 with
      | fz r => exact ⟨_, h1, p.here R h1⟩
      | own r => cases r
    | ow m xs =>
      cases h2 with
      | own r => exact ⟨_, h1, p.here R h1⟩
    | oo m c fs =>
      cases h2 with
      | own r => exact ⟨_, h1, p.here R h1⟩
theorem xo_con {v : V} {d : D} (h : PE X ex (tC v)) (r : ∀ G, DR e G v d) : PE X ex (tO e W (cO d)) := h.imp fun σ H Q ⟨Fo, G, ρ, R, p⟩ => p.here R (r G)
theorem xo_int {i : Int} {j : Nat} : PE X (.Constant (.int i) j pos) (tO e W (cO (.int i))) := xo_con pe_int fun _ => .int i
theorem xo_bl {b : Bool} {j : Nat} : PE X (.Constant (.bool b) j pos) (tO e W (cO (.bl b))) := xo_con pe_bl fun _ => .bl b
theorem xo_non {j : Nat} : PE X (.Constant .none j pos) (tO e W (cO .non)) := xo_con pe_non fun _ => .non
theorem xo_str {s : Str} {j : Nat} : PE X (.Constant (.str s) j pos) (tO e W (cO (.str s))) := xo_con pe_str fun _ => .str s
theorem xd_of {f : Mo Sl} (h : PE X ex (tX e W f)) : PE X ex (tD e W (frzD f)) := h.imp fun σ H Q ⟨Fo, G, ρ, R, p⟩ => by
  refine tG.mono (Post.bind R p) fun v H1 ⟨G1, ρ1, s, g1, R1, r1, p1⟩ => ?_
  obtain ⟨r, hm, ap⟩ := r1
  cases s with
  | no => exact p1.elim
  | fz d =>
    cases r with
    | fz r => exact p1.here R1 r
    | own r => cases r
  | ow m xs =>
    cases (show m = false from hm)
    cases r with
    | @own b _ r =>
      cases r with
      | @ow _ vs _ k1 k2 k3 k4 =>
        have R2 := R1.know k1 k4 k3 fun i t c dx h1 h2 h3 => ⟨fun z => ap rfl b i t rfl h1 h2 (by rw [h3, z]), fun h4 z => by rw [z, k1] at h4; cases h4⟩
        exact p1 _ H1 _ (same_upd k3) (Keep.refl _) R2 (.lst upd_same (k2.mono (same_upd k3)))
  | oo m c fs =>
    cases (show m = false from hm)
    cases r with
    | @own b _ r =>
      cases r with
      | @oo _ _ dx ws _ k1 k2 k3 k4 k5 k6 k7 =>
        have nbd : dx ≠ b := fun z => by rw [z, k1] at k2; cases k2
        have R2 := R1.know k2 k7 k5 fun i t c dy h1 h2 h3 => ⟨fun z => by
          obtain ⟨o, j1, j2⟩ := R1.get h1
          rw [h3] at j1
          cases j1
          obtain ⟨b', e', j3⟩ := j2.owned h2
          cases e'
          obtain ⟨⟨o, j4, j5⟩, _⟩ := j3.at
          rw [z, k2] at j4
          cases j4
          exact j5, fun h4 z => by
          rw [z, k2] at h4
          cases h4
          exact ap rfl _ i t rfl h1 h2 h3⟩
        have k4' : (upd G1 dx (HO.own b)) b = none := by rw [upd_ne (Ne.symm nbd)]; exact k4
        have R3 := R2.know k1 k6 k4' fun i t c dy h1 h2 h3 => ⟨fun z => ap rfl b i t rfl h1 h2 (by rw [h3, z]), fun h4 z => by rw [z, k1] at h4; cases h4⟩
        have s2 : L2.Same G1 (upd (upd G1 dx (HO.own b)) b (.ins (e.ca c) dx ws)) := (same_upd k5).trans (same_upd k4')
        exact p1 _ H1 _ s2 (Keep.refl _) R3 (.obj upd_same (by rw [upd_ne nbd, upd_same]) (k3.mono s2))
theorem xo_of {f : Mo Sl} (h : PE X ex (tX e W f)) : PE X ex (tO e W (frzO f)) := (xd_of h).imp fun σ H Q ⟨Fo, G, ρ, R, p⟩ =>
  tG.mono (Post.bind R p) fun v H1 ⟨G1, ρ1, s, g1, R1, r1, p1⟩ => p1.here R1 (show ArR e Fo G1 σ H1 ρ1 v (.vl s) from r1)
theorem xx_of {f : Mo Ar} (h : PE X ex (tO e W f)) : PE X ex (tX e W (valO f)) := h.imp fun σ H Q ⟨Fo, G, ρ, R, p⟩ => by
  refine tG.mono (Post.bind R p) fun v H1 ⟨G1, ρ1, a, g1, R1, r1, p1⟩ => ?_
  cases a with
  | vl d => exact p1.here R1 ⟨.fz r1, rfl, fun z => nomatch z⟩
  | sl i =>
    have hs : σ[i]? = some (some v) := r1
    cases q : ρ1[i]? with
    | none => simp only [q] at p1; exact p1.elim
    | some s =>
      simp only [q] at p1
      cases s with
      | fz d =>
        obtain ⟨o, h1, h2⟩ := R1.get q
        rw [hs] at h1
        cases h1
        cases h2 with
        | fz r => exact p1.here R1 ⟨.fz r, rfl, fun z => nomatch z⟩
        | own r => cases r
      | no => exact p1.elim
      | ow m xs => exact p1.elim
      | oo m c fs => exact p1.elim
end

/-! ### operations by values -/
/-- what is asked of an operation on two things -/
def OpG (e : Ev) (r : R2) (g : D → D → Option Sl) : Prop := ∀ (G H : Hp) (x y : V) (d1 d2 : D) (s : Sl) (Q : VK), L2.Same G H → CoR e G H x d1 → CoR e G H y d2 → g d1 d2 = some s →
  (∀ G' H' v, Gr G H G' H' → New e H G' H' v s → Q v H') → r x y H Q
def UnG (e : Ev) (r : V → Hp → VK → Prop) (g : D → Option Sl) : Prop := ∀ (G H : Hp) (x : V) (d1 : D) (s : Sl) (Q : VK), L2.Same G H → CoR e G H x d1 → g d1 = some s →
  (∀ G' H' v, Gr G H G' H' → New e H G' H' v s → Q v H') → r x H Q
inductive CoRs (e : Ev) (G H : Hp) : List V → List D → Prop
  | nil : CoRs e G H [] []
  | cons {v : V} {d : D} {vs : List V} {ds : List D} : CoR e G H v d → CoRs e G H vs ds → CoRs e G H (v :: vs) (d :: ds)
def CaG (e : Ev) (r : List V → Hp → VK → Prop) (g : List D → Option Sl) : Prop := ∀ (G H : Hp) (xs : List V) (ds : List D) (s : Sl) (Q : VK), L2.Same G H → CoRs e G H xs ds → g ds = some s →
  (∀ G' H' v, Gr G H G' H' → New e H G' H' v s → Q v H') → r xs H Q
def retO {α : Type} (ρ : List Sl) : Option α → Re α
  | some a => .ok ρ a
  | none => .bad
def binX (g : D → D → Option Sl) (fa fb : Mo Ar) : Mo Sl := Mo.bind fa fun a => Mo.bind fb fun b ρ => match con ρ a, con ρ b with
  | some d1, some d2 => retO ρ (g d1 d2)
  | _, _ => .bad
def unX (g : D → Option Sl) (fa : Mo Ar) : Mo Sl := Mo.bind fa fun a ρ => match con ρ a with
  | some d1 => retO ρ (g d1)
  | _ => .bad
def conS (ρ : List Sl) : List Ar → Option (List D)
  | [] => some []
  | a :: as => match con ρ a, conS ρ as with
    | some d, some ds => some (d :: ds)
    | _, _ => none
def caX (g : List D → Option Sl) (fa : Mo (List Ar)) : Mo Sl := Mo.bind fa fun as ρ => match conS ρ as with
  | some ds => retO ρ (g ds)
  | none => .bad
section
variable {X : Cx} {e : Ev} {W : WX} {a b c : Expr} {pos : Pos} {fa fb fc : Mo Ar} {r : R2} {g : D → D → Option Sl}
theorem bin_core (G : OpG e r g) {σ : St} {H : Hp} {Q : VK} (h : tX e W (binX g fa fb) σ H Q) : tOp r (tO e W fa) (tO e W fb) σ H Q := by
  obtain ⟨Fo, G0, ρ, R, p⟩ := h
  refine tG.mono (Post.bind R p) fun x H1 ⟨G1, ρ1, a1, g1, R1, r1, p1⟩ => ?_
  refine tG.mono (Post.bind R1 p1) fun y H2 ⟨G2, ρ2, a2, g2, R2, r2, p2⟩ => ?_
  cases q1 : con ρ2 a1 with
  | none => simp only [q1] at p2; exact p2.elim
  | some d1 =>
    cases q2 : con ρ2 a2 with
    | none => simp only [q1, q2] at p2; exact p2.elim
    | some d2 =>
      simp only [q1, q2] at p2
      cases q3 : g d1 d2 with
      | none => simp only [q3, retO] at p2; exact p2.elim
      | some s =>
        simp only [q3, retO] at p2
        exact G G2 H2 x y d1 d2 s Q R2.gh ((r1.mono g2 : ArR e Fo G2 σ H2 ρ2 x a1).co R2 q1) (r2.co R2 q2) q3 fun G' H' v gr n => p2.new R2 gr n
theorem xx_bin {op : Operator} (ho : OpR X (binaryOp op) r) (hg : OpG e r g) (ha : PE X a (tO e W fa)) (hb : PE X b (tO e W fb)) : PE X (.BinOp a op b pos) (tX e W (binX g fa fb)) :=
  (pe_op ho ha hb).imp fun _ _ _ => bin_core hg
theorem xx_cmp {op : CmpOp} (ho : OpR X (compareOp op) r) (hg : OpG e r g) (ha : PE X a (tO e W fa)) (hb : PE X b (tO e W fb)) (hm : behindInMarks op b = false) : PE X (.Compare a [op] [b] pos) (tX e W (binX g fa fb)) :=
  (pe_cmpR ho ha hb hm).imp fun _ _ _ => bin_core hg
theorem un_core {r : V → Hp → VK → Prop} {g : D → Option Sl} (G : UnG e r g) {σ : St} {H : Hp} {Q : VK} (h : tX e W (unX g fa) σ H Q) : tO e W fa σ H fun x H1 => r x H1 Q := by
  obtain ⟨Fo, G0, ρ, R, p⟩ := h
  refine tG.mono (Post.bind R p) fun x H1 ⟨G1, ρ1, a1, g1, R1, r1, p1⟩ => ?_
  cases q1 : con ρ1 a1 with
  | none => simp only [q1] at p1; exact p1.elim
  | some d1 =>
    simp only [q1] at p1
    cases q3 : g d1 with
    | none => simp only [q3, retO] at p1; exact p1.elim
    | some s =>
      simp only [q3, retO] at p1
      exact G G1 H1 x d1 s Q R1.gh (r1.co R1 q1) q3 fun G' H' v gr n => p1.new R1 gr n
theorem xx_un {op : UnaryOp} {r : V → Hp → VK → Prop} {g : D → Option Sl} (ho : UnR X (unaryOp op) r) (hg : UnG e r g) (ha : PE X a (tO e W fa)) : PE X (.UnaryOp op a pos) (tX e W (unX g fa)) :=
  (pe_un ho ha).imp fun _ _ _ => un_core hg
theorem ArRs.co {Fo G H : Hp} {σ : St} {ρ : List Sl} (R : Rel e Fo G σ H ρ) : ∀ {vs : List V} {as : List Ar} {ds : List D}, ArRs e G σ vs as → conS ρ as = some ds → CoRs e G H vs ds
  | _, _, _, .nil, h => by cases h; exact .nil
  | _, _, _, @ArRs.cons _ _ _ v a vs as h1 h2, h => by
    unfold conS at h
    cases q1 : con ρ a with
    | none => simp only [q1] at h; cases h
    | some d =>
      cases q2 : conS ρ as with
      | none => simp only [q1, q2] at h; cases h
      | some ds' =>
        simp only [q1, q2] at h
        cases h
        exact .cons ((h1.mono (L2.Same.refl _) : ArR e Fo G σ H ρ v a).co R q1) (ArRs.co R h2 q2)
theorem ca_core {r : List V → Hp → VK → Prop} {g : List D → Option Sl} {fa : Mo (List Ar)} (G : CaG e r g) {σ : St} {H : Hp} {Q : VK} (h : tX e W (caX g fa) σ H Q) : tA e W fa σ H fun xs H1 => r xs H1 Q := by
  obtain ⟨Fo, G0, ρ, R, p⟩ := h
  refine tG.mono (Post.bind R p) fun x H1 ⟨G1, ρ1, a1, g1, R1, r1, p1⟩ => ?_
  cases q1 : conS ρ1 a1 with
  | none => simp only [q1] at p1; exact p1.elim
  | some d1 =>
    simp only [q1] at p1
    cases q3 : g d1 with
    | none => simp only [q3, retO] at p1; exact p1.elim
    | some s =>
      simp only [q3, retO] at p1
      exact G G1 H1 x d1 s Q R1.gh (ArRs.co R1 r1 q1) q3 fun G' H' v gr n => p1.new R1 gr n
/-! ### argument lists -/
def nilA : Mo (List Ar) := fun ρ => .ok ρ []
def consA (f : Mo Ar) (g : Mo (List Ar)) : Mo (List Ar) := Mo.bind f fun a => Mo.bind g fun as ρ => .ok ρ (a :: as)
theorem xa_nil : PA X [] (tA e W nilA) := pa_nil.imp fun σ H Q ⟨Fo, G, ρ, R, p⟩ => p.here R .nil
theorem xa_cons {x : Expr} {es : List Expr} {f : Mo Ar} {g : Mo (List Ar)} (h1 : PE X x (tO e W f)) (h2 : PA X es (tA e W g)) (hs : starEach (x :: es) X.env = (false, eval x X.env) :: starEach es X.env := by rfl) : PA X (x :: es) (tA e W (consA f g)) :=
  (pa_cons h1 h2 hs).imp fun σ H Q ⟨Fo, G0, ρ, R, p⟩ => by
    refine tG.mono (Post.bind R p) fun x H1 ⟨G1, ρ1, a1, g1, R1, r1, p1⟩ => ?_
    refine tG.mono (Post.bind R1 p1) fun y H2 ⟨G2, ρ2, a2, g2, R2, r2, p2⟩ => ?_
    exact p2.here R2 (.cons (r1.mono g2) r2)
end
end L2.WD
/-! The data layer, part 3: statements, loops, comprehensions. -/
namespace L2.WD
open PySem PySem.Spec PyProof.Rows

section
variable {e : Ev} {W : WX} {Fo G G' H H' : Hp} {σ σ' : St} {ρ ρ' : List Sl} {En : Ends}
def PostN (e : Ev) (Fo G : Hp) (σ : St) (ρ ρ' : List Sl) (Q : St → Hp → Prop) : Prop :=
  ∀ (G' : Hp) (σ' : St) (H' : Hp), L2.Same G G' → KeepS σ ρ σ' ρ' → Rel e Fo G' σ' H' ρ' → Q σ' H'
def PostS (e : Ev) (W : WX) (Fo G : Hp) (σ : St) (ρ : List Sl) (r : Out) (En : Ends) : Prop := match r with
  | .nx ρ' => PostN e Fo G σ ρ ρ' En.nx
  | .bk ρ' => PostN e Fo G σ ρ ρ' En.bk
  | .ct ρ' => PostN e Fo G σ ρ ρ' En.ct
  | .rt ρ' s => ∀ (G' : Hp) (σ' : St) (H' : Hp) (v : V), L2.Same G G' → KeepS σ ρ σ' ρ' → Rel e Fo G' σ' H' ρ' → Val e Fo G' σ' H' ρ' v s → En.rt v H'
  | .exc ρ' c fs => ∀ (G' : Hp) (σ' : St) (H' : Hp) (cls : Value) (od : Option Addr), L2.Same G G' → KeepS σ ρ σ' ρ' → Rel e Fo G' σ' H' ρ' → ExcR e G' c fs cls od → W cls od σ' H'
  | .bad => False
@[reducible] def So : Type := List Sl → Out
def tS (e : Ev) (W : WX) (g : So) : TS := fun En σ H => ∃ (Fo G : Hp) (ρ : List Sl), Rel e Fo G σ H ρ ∧ PostS e W Fo G σ ρ (g ρ) En
theorem PostN.from {ρ2 : List Sl} {Q : St → Hp → Prop} (h : PostN e Fo G σ ρ ρ2 Q) (g : L2.Same G G') (k : KeepS σ ρ σ' ρ') : PostN e Fo G' σ' ρ' ρ2 Q :=
  fun G2 σ2 H2 g2 k2 => h G2 σ2 H2 (g.trans g2) (k.trans k2)
theorem PostS.from {r : Out} (h : PostS e W Fo G σ ρ r En) (g : L2.Same G G') (k : KeepS σ ρ σ' ρ') : PostS e W Fo G' σ' ρ' r En := by
  cases r with
  | nx ρ2 => exact PostN.from h g k
  | bk ρ2 => exact PostN.from h g k
  | ct ρ2 => exact PostN.from h g k
  | rt ρ2 s => exact fun G2 σ2 H2 v g2 k2 => h G2 σ2 H2 v (g.trans g2) (k.trans k2)
  | exc ρ2 c fs => exact fun G2 σ2 H2 cls od g2 k2 => h G2 σ2 H2 cls od (g.trans g2) (k.trans k2)
  | bad => exact h
/-- another end for «next», «continue», «break» -/
theorem PostS.ends {r : Out} {En En' : Ends} (h : PostS e W Fo G σ ρ r En) (hn : ∀ ρ', r = .nx ρ' → PostN e Fo G σ ρ ρ' En'.nx) (hc : ∀ ρ', r = .ct ρ' → PostN e Fo G σ ρ ρ' En'.ct) (hb : ∀ ρ', r = .bk ρ' → PostN e Fo G σ ρ ρ' En'.bk) (hr : En'.rt = En.rt) : PostS e W Fo G σ ρ r En' := by
  cases r with
  | nx ρ2 => exact hn _ rfl
  | bk ρ2 => exact hb _ rfl
  | ct ρ2 => exact hc _ rfl
  | rt ρ2 s =>
    show ∀ (G' : Hp) (σ' : St) (H' : Hp) (v : V), L2.Same G G' → KeepS σ ρ σ' ρ2 → Rel e Fo G' σ' H' ρ2 → Val e Fo G' σ' H' ρ2 v s → En'.rt v H'
    rw [hr]
    exact h
  | exc ρ2 c fs => exact h
  | bad => exact h
def seqS (a b : So) : So := fun ρ => match a ρ with
  | .nx ρ' => b ρ'
  | o => o
/-- an expression ahead of what is done with it -/
def bindS {α : Type} (f : Mo α) (k : α → So) : So := fun ρ => match f ρ with
  | .ok ρ' a => k a ρ'
  | .exc ρ' c fs => .exc ρ' c fs
  | .bad => .bad
theorem PostS.bind {α β : Type} {Rl : RlT α β} {f : Mo α} {k : α → So} (R : Rel e Fo G σ H ρ) (h : PostS e W Fo G σ ρ (bindS f k ρ) En) :
    tG e W Rl f σ H fun v H1 => ∃ (G' : Hp) (ρ' : List Sl) (a : α), L2.Same G G' ∧ Rel e Fo G' σ H1 ρ' ∧ Rl e Fo G' σ H1 ρ' v a ∧ KeepS σ ρ σ ρ' ∧ PostS e W Fo G' σ ρ' (k a ρ') En := by
  refine ⟨Fo, G, ρ, R, ?_⟩
  unfold bindS at h
  cases q : f ρ with
  | ok ρ1 a =>
    rw [q] at h
    exact fun G' H' v g kp R' r => ⟨G', ρ1, a, g, R', r, kp.toS, h.from g kp.toS⟩
  | exc ρ1 c fs =>
    rw [q] at h
    exact fun G' H' cls od g kp R' r => h G' σ H' cls od g kp.toS R' r
  | bad =>
    rw [q] at h
    exact h

/-! ### a slot is stored -/
theorem SlRs.nil_get {i : Nat} (h : SlRs e Fo G H σ ρ) (n : ρ[i]? = none) : σ[i]? = none := by
  have := h.length
  rw [List.getElem?_eq_none_iff] at n ⊢
  omega
theorem Rel.put {v : V} {s : Sl} {i : Nat} (R : Rel e Fo G σ H ρ) (r : Val e Fo G σ H ρ v s) : Rel e Fo G (σ.set i (some v)) H (ρ.set i s) := by
  obtain ⟨r1, r2, r3⟩ := r
  refine ⟨R.gh, R.fh, R.fg, R.sl.set r1 i, fun j k b s1 t1 h1 h2 o1 o2 e1 e2 => ?_⟩
  by_cases hj : j = i
  · subst hj
    by_cases hk : k = j
    · exact hk.symm
    · rw [List.getElem?_set_ne (Ne.symm hk)] at h2 e2
      have hl : j < ρ.length := by
        by_cases z : j < ρ.length
        · exact z
        · rw [List.getElem?_eq_none (by simpa using z)] at h1
          cases h1
      rw [List.getElem?_set_self hl] at h1
      have hl2 : j < σ.length := by rw [R.len]; exact hl
      rw [List.getElem?_set_self hl2] at e1
      cases h1
      cases e1
      exact absurd e2 (r3 o1 b k t1 rfl h2 o2)
  · rw [List.getElem?_set_ne (Ne.symm hj)] at h1 e1
    by_cases hk : k = i
    · subst hk
      have hl : k < ρ.length := by
        by_cases z : k < ρ.length
        · exact z
        · rw [List.getElem?_eq_none (by simpa using z)] at h2
          cases h2
      rw [List.getElem?_set_self hl] at h2
      have hl2 : k < σ.length := by rw [R.len]; exact hl
      rw [List.getElem?_set_self hl2] at e2
      cases h2
      cases e2
      exact absurd e1 (r3 o2 b j s1 rfl h1 o1)
    · rw [List.getElem?_set_ne (Ne.symm hk)] at h2 e2
      exact R.ap j k b s1 t1 h1 h2 o1 o2 e1 e2
/-- the slot's own list is the caller's: it can't be stored to -/
def free (ρ : List Sl) (i : Nat) : Bool := match ρ[i]? with
  | some s => !s.mine
  | none => false
theorem free_keep {i : Nat} {s : Sl} {o : Option V} (h : free ρ i = true) : KeepS σ ρ (σ.set i o) (ρ.set i s) := fun j t ht hm => by
  by_cases hj : j = i
  · subst hj
    unfold free at h
    simp only [ht, hm] at h
    cases h
  · rw [List.getElem?_set_ne (Ne.symm hj), List.getElem?_set_ne (Ne.symm hj)]
    exact ⟨rfl, t, ht, hm⟩
def putS (i : Nat) (s : Sl) : So := fun ρ => if free ρ i = true then .nx (ρ.set i s) else .bad
def setS (i : Nat) (f : Mo Sl) : So := bindS f fun s => putS i s
def retS (f : Mo Sl) : So := bindS f fun s ρ => .rt ρ s
def exprS {α : Type} (f : Mo α) : So := bindS f fun _ ρ => .nx ρ
def ifS (t : Mo Bool) (a b : So) : So := bindS t fun c ρ => if c = true then a ρ else b ρ
def nxS : So := fun ρ => .nx ρ
def retN : So := fun ρ => .rt ρ (.fz .non)
theorem Val.fz {v : V} {d : D} (h : DR e G v d) : Val e Fo G σ H ρ v (.fz d) := ⟨.fz h, rfl, fun z => nomatch z⟩
theorem PostS.put {v : V} {s : Sl} {i : Nat} (R : Rel e Fo G σ H ρ) (r : Val e Fo G σ H ρ v s) (h : PostS e W Fo G σ ρ (putS i s ρ) En) : En.nx (σ.set i (some v)) H := by
  unfold putS at h
  by_cases c : free ρ i = true
  · rw [if_pos c] at h
    exact h G _ H (L2.Same.refl _) (free_keep c) (R.put r)
  · rw [if_neg c] at h
    exact h.elim
end

section
variable {X : Cx} {e : Ev} {W : WX} {ex : Expr} {st : Stmt} {rest : List Stmt} {pos pos' : Pos} {g g' : So}
theorem ss_asg {t : TE} {i : Nat} {f : Mo Sl} (h : PS X st (tAsg t (gName i))) (i' : ∀ σ H Q, tX e W f σ H Q → t σ H Q) : PS X st (tS e W (setS i f)) := h.imp fun En σ H ⟨Fo, G, ρ, R, p⟩ =>
  i' _ _ _ (tG.mono (PostS.bind R p) fun v H1 ⟨G1, ρ1, s, g1, R1, r1, _, p1⟩ => p1.put R1 r1)
theorem ss_set {i : Nat} {x : Str} {f : Mo Sl} (hN : X.N.Nodup) (hi : X.N[i]? = some x) (hx : Loc X.env.scope x) (he : PE X ex (tX e W f)) (hs : swapsWith ex (some (.Name x pos')) pos.line X.env = pure false := by rfl) (hf : X.fn x = true ∨ X.env.scope.names.lookup x = some .local := by first | exact .inl rfl | exact .inr rfl | assumption) :
    PS X (.Assign [.Name x pos'] ex pos) (tS e W (setS i f)) := ss_asg (ps_set hN hi hx he hs hf) fun _ _ _ h => h
theorem ss_ret {f : Mo Sl} (he : PE X ex (tX e W f)) : PS X (.Return (some ex) pos) (tS e W (retS f)) := (ps_ret he).imp fun En σ H ⟨Fo, G, ρ, R, p⟩ =>
  tG.mono (PostS.bind R p) fun v H1 ⟨G1, ρ1, s, g1, R1, r1, _, p1⟩ => p1 G1 σ H1 v (L2.Same.refl _) (KeepS.refl _ _) R1 r1
theorem ss_retN : PS X (.Return none pos) (tS e W retN) := ps_retN.imp fun En σ H ⟨Fo, G, ρ, R, p⟩ => p G σ H .non (L2.Same.refl _) (KeepS.refl _ _) R (.fz .non)
theorem ss_expr {α : Type} {Rl : RlT α V} {f : Mo α} (he : PE X ex (tG e W Rl f)) (hs : swapsWith ex none pos.line X.env = pure false := by rfl) : PS X (.Expr ex pos) (tS e W (exprS f)) := (ps_expr he hs).imp fun En σ H ⟨Fo, G, ρ, R, p⟩ =>
  tG.mono (PostS.bind R p) fun v H1 ⟨G1, ρ1, s, g1, R1, r1, _, p1⟩ => p1 G1 σ H1 (L2.Same.refl _) (KeepS.refl _ _) R1
theorem ss_doc {x : Str} {j : Nat} : PS X (.Expr (.Constant (.str x) j pos) pos') (tS e W nxS) := ps_doc.imp fun En σ H ⟨Fo, G, ρ, R, p⟩ => p G σ H (L2.Same.refl _) (KeepS.refl _ _) R
theorem ss_pass : PS X (.Pass pos) (tS e W nxS) := ps_pass.imp fun En σ H ⟨Fo, G, ρ, R, p⟩ => p G σ H (L2.Same.refl _) (KeepS.refl _ _) R
theorem ss_break : PS X (.Break pos) (tS e W .bk) := ps_break.imp fun En σ H ⟨Fo, G, ρ, R, p⟩ => p G σ H (L2.Same.refl _) (KeepS.refl _ _) R
theorem ss_continue : PS X (.Continue pos) (tS e W .ct) := ps_continue.imp fun En σ H ⟨Fo, G, ρ, R, p⟩ => p G σ H (L2.Same.refl _) (KeepS.refl _ _) R
theorem ss_nil : PSs X [] (tS e W nxS) := pss_nil.imp fun En σ H ⟨Fo, G, ρ, R, p⟩ => p G σ H (L2.Same.refl _) (KeepS.refl _ _) R
theorem seq_core {En : Ends} {σ : St} {H : Hp} (h : tS e W (seqS g g') En σ H) : tS e W g { En with nx := tS e W g' En } σ H := by
  obtain ⟨Fo, G, ρ, R, p⟩ := h
  refine ⟨Fo, G, ρ, R, ?_⟩
  unfold seqS at p
  cases q : g ρ with
  | nx ρ1 =>
    rw [q] at p
    exact fun G' σ' H' g1 k1 R1 => ⟨Fo, G', ρ1, R1, p.from g1 k1⟩
  | bk ρ1 => rw [q] at p; exact p
  | ct ρ1 => rw [q] at p; exact p
  | rt ρ1 s => rw [q] at p; exact p
  | exc ρ1 c fs => rw [q] at p; exact p
  | bad => rw [q] at p; exact p
theorem ss_cons (h1 : PS X st (tS e W g)) (h2 : PSs X rest (tS e W g')) : PSs X (st :: rest) (tS e W (seqS g g')) := (pss_cons h1 h2).imp fun En σ H h => seq_core h
theorem ss_one (h1 : PS X st (tS e W g)) : PSs X [st] (tS e W g) := pss_one h1
theorem ss_if {c : Expr} {a b : List Stmt} {t : Mo Bool} (hc : PT X c (tT e W t)) (ha : PSs X a (tS e W g)) (hb : PSs X b (tS e W g')) : PS X (.If c a b pos) (tS e W (ifS t g g')) := (ps_if hc ha hb).imp fun En σ H ⟨Fo, G, ρ, R, p⟩ =>
  tG.mono (PostS.bind R p) fun v H1 ⟨G1, ρ1, c, g1, R1, r1, _, p1⟩ => by
    cases (show v = c from r1)
    by_cases k : v = true
    · rw [if_pos k] at p1 ⊢
      exact ⟨Fo, G1, ρ1, R1, p1⟩
    · rw [if_neg k] at p1 ⊢
      exact ⟨Fo, G1, ρ1, R1, p1⟩
/-- a name whose own list goes (return x) -/
def mvX (i : Nat) : Mo Sl := fun ρ => match ρ[i]? with
  | some (.fz d) => .ok ρ (.fz d)
  | some (.ow false xs) => .ok (ρ.set i .no) (.ow false xs)
  | some (.oo false c fs) => .ok (ρ.set i .no) (.oo false c fs)
  | _ => .bad
theorem Rel.drop {Fo G H : Hp} {σ : St} {ρ : List Sl} {i : Nat} (R : Rel e Fo G σ H ρ) : Rel e Fo G σ H (ρ.set i .no) :=
  ⟨R.gh, R.fh, R.fg, R.sl.setR i fun _ _ => .no, fun j k b s t h1 h2 o1 o2 e1 e2 => by
    by_cases hj : j = i
    · subst hj
      by_cases z : j < ρ.length
      · rw [List.getElem?_set_self z] at h1
        cases h1
        cases o1
      · rw [List.getElem?_eq_none (by simpa using z)] at h1
        cases h1
    · by_cases hk : k = i
      · subst hk
        by_cases z : k < ρ.length
        · rw [List.getElem?_set_self z] at h2
          cases h2
          cases o2
        · rw [List.getElem?_eq_none (by simpa using z)] at h2
          cases h2
      · rw [List.getElem?_set_ne (Ne.symm hj)] at h1
        rw [List.getElem?_set_ne (Ne.symm hk)] at h2
        exact R.ap j k b s t h1 h2 o1 o2 e1 e2⟩
theorem keep_set {ρ : List Sl} {i : Nat} {s t : Sl} (h : ρ[i]? = some s) (m : s.mine = false) : Keep ρ (ρ.set i t) := fun j u hu hm => by
  by_cases hj : j = i
  · subst hj
    rw [h] at hu
    cases hu
    rw [m] at hm
    cases hm
  · rw [List.getElem?_set_ne (Ne.symm hj)]
    exact ⟨u, hu, hm⟩
theorem drop_val {Fo G H : Hp} {σ : St} {ρ : List Sl} {i : Nat} {v : V} {s : Sl} (R : Rel e Fo G σ H ρ) (h : ρ[i]? = some s) (hv : σ[i]? = some (some v)) (hs : SlR e Fo G H (some v) s) (m : s.mine = false) : Val e Fo G σ H (ρ.set i .no) v s := by
  refine ⟨hs, m, fun ho b j t ev ht hto he => ?_⟩
  subst ev
  by_cases hj : j = i
  · subst hj
    by_cases z : j < ρ.length
    · rw [List.getElem?_set_self z] at ht
      cases ht
      cases hto
    · rw [List.getElem?_eq_none (by simpa using z)] at ht
      cases ht
  · rw [List.getElem?_set_ne (Ne.symm hj)] at ht
    exact hj (R.ap j i b t s ht h hto ho he hv)
theorem xx_mv {i : Nat} {x : Str} (h : PE X (.Name x pos) (tVar i)) : PE X (.Name x pos) (tX e W (mvX i)) := h.imp fun σ H Q ⟨Fo, G, ρ, R, p⟩ => by
  unfold mvX at p
  cases q : ρ[i]? with
  | none => rw [q] at p; exact p.elim
  | some s =>
    rw [q] at p
    obtain ⟨o, h1, h2⟩ := R.get q
    cases s with
    | no => exact p.elim
    | fz d =>
      cases h2 with
      | fz r => exact ⟨_, h1, p.here R (.fz r)⟩
      | own r => cases r
    | ow m xs =>
      cases m with
      | true => exact p.elim
      | false =>
        cases h2 with
        | own r => exact ⟨_, h1, p _ _ _ (L2.Same.refl _) (keep_set q rfl) R.drop (drop_val R q h1 (.own r) rfl)⟩
    | oo m c fs =>
      cases m with
      | true => exact p.elim
      | false =>
        cases h2 with
        | own r => exact ⟨_, h1, p _ _ _ (L2.Same.refl _) (keep_set q rfl) R.drop (drop_val R q h1 (.own r) rfl)⟩
/-- a name whose own list stays as it is from here on -/
def frN (i : Nat) : Mo Ar := fun ρ => match ρ[i]? with
  | some (.fz d) => .ok ρ (.vl d)
  | some (.ow false xs) => .ok (ρ.set i (.fz (.lst xs))) (.vl (.lst xs))
  | some (.oo false c fs) => .ok (ρ.set i (.fz (.obj c fs))) (.vl (.obj c fs))
  | _ => .bad
def frX (i : Nat) : Mo Ar := fun ρ => (frzO (mvX i) ρ)
end

/-! ### targets -/
section
variable {X : Cx} {e : Ev} {W : WX} {pos : Pos}
/-- d is stored to a target; is: the slots that it stores to -/
def tgR (e : Ev) (is : List Nat) (t : D → So) : TG := fun v σ H Q => ∃ (Fo G : Hp) (ρ : List Sl) (d : D), Rel e Fo G σ H ρ ∧ DR e G v d ∧ ∃ ρ', t d ρ = .nx ρ' ∧
  ∀ (G' : Hp) (σ' : St) (H' : Hp), L2.Same G G' → KeepS σ ρ σ' ρ' → Rel e Fo G' σ' H' ρ' → σ'.length = σ.length → (∀ j, j ∉ is → σ'[j]? = σ[j]?) → Q σ' H'
def tgsR (e : Ev) (is : List Nat) (t : List D → So) : TGs := fun vs σ H Q => ∃ (Fo G : Hp) (ρ : List Sl) (ds : List D), Rel e Fo G σ H ρ ∧ DRs e G vs ds ∧ ∃ ρ', t ds ρ = .nx ρ' ∧
  ∀ (G' : Hp) (σ' : St) (H' : Hp), L2.Same G G' → KeepS σ ρ σ' ρ' → Rel e Fo G' σ' H' ρ' → σ'.length = σ.length → (∀ j, j ∉ is → σ'[j]? = σ[j]?) → Q σ' H'
theorem _root_.L2.PG.imp {tg : Expr} {t t' : TG} (h : PG X tg t) (i : ∀ v σ H Q, t' v σ H Q → t v σ H Q) : PG X tg t' := ⟨fun pins s σ H v u Q I r w => h.run pins s σ H v u Q I r (i v σ H Q w)⟩
theorem _root_.L2.PGs.imp {tg : List Expr} {t t' : TGs} (h : PGs X tg t) (i : ∀ v σ H Q, t' v σ H Q → t v σ H Q) : PGs X tg t' := ⟨fun pins s σ H v u Q I r w => h.run pins s σ H v u Q I r (i v σ H Q w)⟩
def gN (i : Nat) : D → So := fun d => putS i (.fz d)
theorem sg_name {i : Nat} {x : Str} (hN : X.N.Nodup) (hi : X.N[i]? = some x) (hx : Loc X.env.scope x) (hf : X.fn x = true ∨ X.env.scope.names.lookup x = some .local := by first | exact .inl rfl | exact .inr rfl | assumption) : PG X (.Name x pos) (tgR e [i] (gN i)) :=
  (pg_name hN hi hx hf).imp fun v σ H Q ⟨Fo, G, ρ, d, R, r, ρ', h, q⟩ => by
    unfold gN putS at h
    by_cases c : free ρ i = true
    · rw [if_pos c] at h
      cases h
      exact q G _ H (L2.Same.refl _) (free_keep c) (R.put (.fz r)) (by simp) fun j hj => List.getElem?_set_ne fun z => hj (by simp [z])
    · rw [if_neg c] at h
      cases h
def gNilD : List D → So := fun ds ρ => match ds with
  | [] => .nx ρ
  | _ => .bad
def gConsD (t : D → So) (u : List D → So) : List D → So := fun ds => match ds with
  | d :: ds => seqS (t d) (u ds)
  | [] => fun _ => .bad
theorem sg_nil : PGs X [] (tgsR e [] gNilD) := pgs_nil.imp fun v σ H Q ⟨Fo, G, ρ, ds, R, r, ρ', h, q⟩ => by
  cases ds with
  | nil =>
    cases r
    cases h
    exact ⟨rfl, q G σ H (L2.Same.refl _) (KeepS.refl _ _) R rfl fun _ _ => rfl⟩
  | cons d ds => cases h
theorem sg_cons {tg : Expr} {tgs : List Expr} {is js : List Nat} {t : D → So} {u : List D → So} (h1 : PG X tg (tgR e is t)) (h2 : PGs X tgs (tgsR e js u))
    (hs : (assignEach (tg :: tgs) X.env).map (·.2) = assign tg X.env :: (assignEach tgs X.env).map (·.2) := by rfl) : PGs X (tg :: tgs) (tgsR e (is ++ js) (gConsD t u)) :=
  (pgs_cons h1 h2 hs).imp fun vs σ H Q ⟨Fo, G, ρ, ds, R, r, ρ', h, q⟩ => by
    cases r with
    | nil => cases h
    | @cons v0 vs0 d0 ds0 r rr =>
      refine ⟨_, _, rfl, ?_⟩
      have h' : seqS (t d0) (u ds0) ρ = .nx ρ' := h
      unfold seqS at h'
      cases q1 : t d0 ρ with
      | nx ρ1 =>
        rw [q1] at h'
        exact ⟨Fo, G, ρ, d0, R, r, ρ1, q1, fun G1 σ1 H1 g1 k1 R1 l1 n1 => ⟨Fo, G1, ρ1, ds0, R1, rr.mono g1, ρ', h', fun G2 σ2 H2 g2 k2 R2 l2 n2 => q G2 σ2 H2 (g1.trans g2) (k1.trans k2) R2 (l2.trans l1) fun j hj => by
          rw [List.mem_append] at hj
          rw [n2 j fun z => hj (.inr z), n1 j fun z => hj (.inl z)]⟩⟩
      | bk ρ1 => rw [q1] at h'; cases h'
      | ct ρ1 => rw [q1] at h'; cases h'
      | rt ρ1 s => rw [q1] at h'; cases h'
      | exc ρ1 c fs => rw [q1] at h'; cases h'
      | bad => rw [q1] at h'; cases h'
def gTupD (n : Nat) (u : List D → So) : D → So := fun d => match d with
  | .tup ds => if ds.length = n then u ds else fun _ => .bad
  | _ => fun _ => .bad
theorem sg_tup {es : List Expr} {k : Nat} {n : Nat} {is : List Nat} {u : List D → So} (hK : X.K = e.K) (hc : X.calm = true) (h : PGs X es (tgsR e is u))
    (hn : (assignEach es X.env).length = n := by rfl) (hst : (assignEach es X.env).findIdx? (·.1) = none := by rfl) : PG X (.Tuple es k pos) (tgR e is (gTupD n u)) :=
  (pg_tup hc h hn hst).imp fun v σ H Q ⟨Fo, G, ρ, d, R, r, ρ', h, q⟩ => by
    cases r with
    | @tup a xs ds h1 h2 =>
      unfold gTupD at h
      by_cases c : ds.length = n
      · simp only [if_pos c] at h
        refine ⟨a, xs, rfl, ?_, h2.length.trans c, Fo, G, ρ, ds, R, h2, ρ', h, q⟩
        rw [hK]
        exact Same.seqT R.gh h1
      · simp only [if_neg c] at h
        cases h
    | _ => cases h
/-- a, b = e; for what is stored as a whole -/
def asgS (f : Mo D) (t : D → So) : So := bindS f fun d ρ => match t d ρ with
  | .nx ρ' => .nx ρ'
  | _ => .bad
theorem ss_asgT {tg ex : Expr} {is : List Nat} {t : D → So} {f : Mo Sl} (he : PE X ex (tX e W f)) (hg : PG X tg (tgR e is t)) (hs : swapsWithSole [tg] ex pos.line X.env = pure false := by rfl) (hw : swappedStores [tg] ex X.env = pure none := by rfl)
    (h1 : (assignEach [tg] X.env).map (·.2) = [assign tg X.env] := by rfl) : PS X (.Assign [tg] ex pos) (tS e W (asgS (frzD f) t)) := (ps_asg (xd_of he) hg hs hw h1).imp fun En σ H ⟨Fo, G, ρ, R, p⟩ =>
  tG.mono (PostS.bind R p) fun v H1 ⟨G1, ρ1, d, g1, R1, r1, _, p1⟩ => by
    have p2 : PostS e W Fo G1 σ ρ1 (match t d ρ1 with | .nx ρ' => .nx ρ' | _ => .bad) En := p1
    cases q : t d ρ1 with
    | nx ρ2 =>
      rw [q] at p2
      exact ⟨Fo, G1, ρ1, d, R1, r1, ρ2, q, fun G2 σ2 H2 g2 k2 R2 _ _ => p2 G2 σ2 H2 g2 k2 R2⟩
    | bk ρ1 => rw [q] at p2; exact p2.elim
    | ct ρ1 => rw [q] at p2; exact p2.elim
    | rt ρ1 s => rw [q] at p2; exact p2.elim
    | exc ρ1 c fs => rw [q] at p2; exact p2.elim
    | bad => rw [q] at p2; exact p2.elim
end
end L2.WD
/-! The data layer, part 4: what is walked, loops, comprehensions, tests. -/
namespace L2.WD
open PySem PySem.Spec PyProof.Rows

/-- a walk gives these, one behind the other -/
def Wk : RlT (List D) It := fun e _ G _ _ _ J ds => ∃ Y : Nat → Hp → V → Hp → Prop, Walk J ds.length (fun H => ∃ G1, L2.Same G G1 ∧ L2.Same G1 H) Y ∧
  ∀ (i : Nat) (H : Hp) (x : V) (H' : Hp) (G1 : Hp), L2.Same G G1 → L2.Same G1 H → i < ds.length → Y i H x H' → ∃ (G2 : Hp) (d : D), ds[i]? = some d ∧ Gr G1 H G2 H' ∧ DR e G2 x d
abbrev tI (e : Ev) (W : WX) (f : Mo (List D)) : TI := tG e W Wk f
theorem _root_.L2.PI.imp {X : Cx} {tg iter : Expr} {t t' : TI} (h : PI X tg iter t) (i : ∀ σ H R, t' σ H R → t σ H R) : PI X tg iter t' := ⟨fun pins s σ H R I w => h.run pins s σ H R I (i σ H R w)⟩
/-- a list, a tuple, a text: whichever it is -/
def iAny (K : PySem.W.Frag) (tl : TE) : TI := fun σ H R => tl σ H fun x H1 => (∃ a, x = .ref a ∧ (∃ xs, SqL K H1 a xs) ∧ R (Itl K a) H1) ∨ (∃ a, x = .ref a ∧ (∃ xs, SqT K H1 a xs) ∧ R (Itt K a) H1) ∨ ∃ z, x = .str z ∧ R (Its z) H1
section
variable {X : Cx} {tg : Expr}
theorem pi_any {l : Expr} {tl : TE} (hl : PE X l tl) : PI X tg l (iAny X.K tl) := by
  refine ⟨fun pins s σ H R I h => ?_⟩
  refine thn (hl.run pins s σ H _ I h) fun v s1 ⟨x, H1, I1, r1, q1⟩ => ?_
  rcases q1 with ⟨a, e, ⟨xs, hq⟩, q⟩ | ⟨a, e, ⟨xs, hq⟩, q⟩ | ⟨z, e, q⟩
  · subst e
    cases r1
    obtain ⟨its, rv, p, hz⟩ := I1.list hq
    refine wpAny_pyIter_list p.isList ?_
    refine ⟨s1.heap.objs.size, [s1.heap.objs.size], _, _, H1, rfl, I1.kept (t' := s1.toks) fun b o e => Heap.get?_push_of_some _ e, turn_list a _, ⟨_, Heap.get?_push_size _ rfl, rfl, rfl⟩, fun b hb => ?_, q⟩
    have e : b = s1.heap.objs.size := by simpa using hb
    subst e
    exact I1.fpOk (Nat.le_refl _) (I1.hok.fresh (Nat.le_refl _))
  · subst e
    cases r1
    obtain ⟨its, rv, p, hz⟩ := I1.tuple hq
    refine wpAny_pyIter_tuple (show s1.heap.IsTuple a its.toArray from p) ?_
    refine ⟨s1.heap.objs.size, [s1.heap.objs.size], _, _, H1, rfl, I1.kept (t' := s1.toks) fun b o e => Heap.get?_push_of_some _ e, turn_tuple a _, ⟨_, Heap.get?_push_size _ rfl, rfl, rfl⟩, fun b hb => ?_, q⟩
    have e : b = s1.heap.objs.size := by simpa using hb
    subst e
    exact I1.fpOk (Nat.le_refl _) (I1.hok.fresh (Nat.le_refl _))
  · subst e
    obtain ⟨t, rfl⟩ := r1
    cases ha : z.cps.all (· < 128)
    · exact wpAny_pyIter_wide ha (pi_one (tk := s1.toks) I1 _ (turn_str _ z t "str_iterator" (.inr rfl)) ⟨_, Heap.get?_push_size _ rfl, rfl, rfl⟩ q)
    · exact wpAny_pyIter_ascii ha (pi_one (tk := s1.toks) I1 _ (turn_str _ z t "str_ascii_iterator" (.inl rfl)) ⟨_, Heap.get?_push_size _ rfl, rfl, rfl⟩ q)
end
/-- the items of a thing that is walked -/
def itemsD : D → Option (List D)
  | .lst xs => some xs
  | .tup xs => some xs
  | .scr ns => some (ns.map D.int)
  | .str s => some (s.cps.toList.map fun c => .str ⟨#[c]⟩)
  | _ => none
def itX (f : Mo D) : Mo (List D) := Mo.bind f fun d ρ => retO ρ (itemsD d)
section
variable {X : Cx} {e : Ev} {W : WX} {Fo G H : Hp} {σ : St} {ρ : List Sl}
theorem wk_list {a : Addr} {ws : List V} {xs : List D} (h : SqL e.K G a ws) (r : DRs e G ws xs) : Wk e Fo G σ H ρ (Itl e.K a) xs := by
  refine ⟨YAt ws, ?_, fun i H x H' G1 g h1 hi y => ?_⟩
  · rw [← r.length]
    exact (walk_list (xs := ws)).mono (fun H ⟨G1, a, b⟩ => Same.seqL (a.trans b) h) fun i H x H' _ _ y => y
  · obtain ⟨rfl, y2⟩ := y
    obtain ⟨v, h2, h3⟩ := r.get (List.getElem?_eq_getElem hi)
    rw [h2] at y2
    cases y2
    exact ⟨G1, _, List.getElem?_eq_getElem hi, Gr.refl h1, h3.mono g⟩
theorem wk_tup {a : Addr} {ws : List V} {xs : List D} (h : SqT e.K G a ws) (r : DRs e G ws xs) : Wk e Fo G σ H ρ (Itt e.K a) xs := by
  refine ⟨YAt ws, ?_, fun i H x H' G1 g h1 hi y => ?_⟩
  · rw [← r.length]
    exact (walk_tup (xs := ws)).mono (fun H ⟨G1, a, b⟩ => Same.seqT (a.trans b) h) fun i H x H' _ _ y => y
  · obtain ⟨rfl, y2⟩ := y
    obtain ⟨v, h2, h3⟩ := r.get (List.getElem?_eq_getElem hi)
    rw [h2] at y2
    cases y2
    exact ⟨G1, _, List.getElem?_eq_getElem hi, Gr.refl h1, h3.mono g⟩
theorem wk_str {z : Str} : Wk e Fo G σ H ρ (Its z) (z.cps.toList.map fun c => .str ⟨#[c]⟩) := by
  refine ⟨fun i H v H' => H' = H ∧ ∃ c, z.cps[i]? = some c ∧ v = .str ⟨#[c]⟩, ?_, fun i H x H' G1 g h1 hi y => ?_⟩
  · rw [List.length_map, Array.length_toList]
    exact walk_str.mono (fun _ _ => trivial) fun i H x H' _ _ y => y
  · obtain ⟨rfl, c, y2, rfl⟩ := y
    refine ⟨G1, .str ⟨#[c]⟩, ?_, Gr.refl h1, .str _⟩
    rw [List.getElem?_map, Array.getElem?_toList, y2]
    rfl
theorem xi_any {tg l : Expr} {f : Mo D} (hK : X.K = e.K) (hl : PE X l (tD e W f)) : PI X tg l (tI e W (itX f)) := (pi_any hl).imp fun σ H Q ⟨Fo, G, ρ, R, p⟩ => by
  refine tG.mono (Post.bind R p) fun v H1 ⟨G1, ρ1, d, g1, R1, r1, p1⟩ => ?_
  have r2 : DR e G1 v d := r1
  rw [hK]
  cases r2 with
  | lst h r => exact .inl ⟨_, rfl, ⟨_, SqL.of (R1.gh _ _ h)⟩, p1.here R1 (wk_list (SqL.of h) r)⟩
  | scr h => exact .inl ⟨_, rfl, ⟨_, Same.seqL R1.gh h⟩, p1.here R1 (wk_list h (.of_ints _))⟩
  | tup h r => exact .inr (.inl ⟨_, rfl, ⟨_, Same.seqT R1.gh h⟩, p1.here R1 (wk_tup h r)⟩)
  | str s => exact .inr (.inr ⟨_, rfl, p1.here R1 wk_str⟩)
  | _ => exact p1.elim
/-- the things of a name: its own list stays as it is from here on -/
def frD (i : Nat) : Mo D := fun ρ => match ρ[i]? with
  | some (.fz d) => .ok ρ d
  | some (.ow false xs) => .ok (ρ.set i (.fz (.lst xs))) (.lst xs)
  | _ => .bad
theorem xd_nm {i : Nat} {x : Str} {pos : Pos} (h : PE X (.Name x pos) (tVar i)) : PE X (.Name x pos) (tD e W (frD i)) := h.imp fun σ H Q ⟨Fo, G, ρ, R, p⟩ => by
  unfold frD at p
  cases q : ρ[i]? with
  | none => rw [q] at p; exact p.elim
  | some s =>
    rw [q] at p
    obtain ⟨o, h1, h2⟩ := R.get q
    cases s with
    | no => exact p.elim
    | fz d =>
      cases h2 with
      | fz r => exact ⟨_, h1, p.here R r⟩
      | own r => cases r
    | ow m xs =>
      cases m with
      | true => exact p.elim
      | false =>
        cases h2 with
        | @own b _ r =>
          refine ⟨_, h1, ?_⟩
          cases r with
          | @ow _ vs _ k1 k2 k3 k4 =>
            have R1 : Rel e Fo G σ H (ρ.set i .no) := R.drop
            have dv := drop_val R q h1 (.own (.ow k1 k2 k3 k4)) rfl
            have R2 := R1.know k1 k4 k3 fun j t c dx h1 h2 h3 => ⟨fun z => dv.2.2 rfl b j t rfl h1 h2 (by rw [h3, z]), fun h4 z => by rw [z, k1] at h4; cases h4⟩
            have dr : DR e (upd G b (.lst vs)) (.ref b) (.lst xs) := .lst upd_same (k2.mono (same_upd k3))
            refine p _ H _ (same_upd k3) (keep_set q rfl) ⟨R2.gh, R2.fh, R2.fg, ?_, ?_⟩ dr
            · have := R2.sl.setR (s := .fz (.lst xs)) i fun o ho => by
                rw [h1] at ho
                cases ho
                exact .fz dr
              simpa using this
            · intro j k c s t j1 j2 j3 j4 j5 j6
              by_cases hj : j = i
              · subst hj
                by_cases z : j < ρ.length
                · rw [List.getElem?_set_self z] at j1
                  cases j1
                  cases j3
                · rw [List.getElem?_eq_none (by simpa using z)] at j1
                  cases j1
              · by_cases hk : k = i
                · subst hk
                  by_cases z : k < ρ.length
                  · rw [List.getElem?_set_self z] at j2
                    cases j2
                    cases j4
                  · rw [List.getElem?_eq_none (by simpa using z)] at j2
                    cases j2
                · rw [List.getElem?_set_ne (Ne.symm hj)] at j1
                  rw [List.getElem?_set_ne (Ne.symm hk)] at j2
                  exact R.ap j k c s t j1 j2 j3 j4 j5 j6
    | oo m c fs => exact p.elim

/-! ### for -/
def loopS (t : D → So) (body : So) : List D → So
  | [] => fun ρ => .nx ρ
  | d :: ds => fun ρ => match t d ρ with
    | .nx ρ1 => (match body ρ1 with
      | .nx ρ2 => loopS t body ds ρ2
      | .ct ρ2 => loopS t body ds ρ2
      | .bk ρ2 => .nx ρ2
      | o => o)
    | _ => .bad
def forS (f : Mo (List D)) (t : D → So) (body : So) : So := bindS f (loopS t body)
theorem ss_for {tg iter : Expr} {body : List Stmt} {f : Mo (List D)} {is : List Nat} {t : D → So} {b : So} {pos : Pos} (C : EC X e W) (cm : X.calm = true) (hi : PI X tg iter (tI e W f)) (hg : PG X tg (tgR e is t)) (hb : PSs X body (tS e W b))
    (hs : ∀ x, foldedSetIterable iter X.env x = pure x := by intro _; rfl) : PS X (.For tg iter body [] pos) (tS e W (forS f t b)) := (ps_for C.hp cm hi hg hb hs).imp fun En σ H ⟨Fo, G, ρ, R, p⟩ => by
  refine tG.mono (PostS.bind R p) fun J H1 ⟨G1, ρ1, ds, g1, R1, ⟨Y, w, hy⟩, k1, p1⟩ => ?_
  refine for_it w (fun i σ2 H2 => ∃ (G2 : Hp) (ρ2 : List Sl), L2.Same G1 G2 ∧ Rel e Fo G2 σ2 H2 ρ2 ∧ PostS e W Fo G2 σ2 ρ2 (loopS t b (ds.drop i) ρ2) En) ⟨G1, ρ1, L2.Same.refl _, R1, p1⟩ (fun i σ2 H2 _ ⟨G2, ρ2, g2, R2, _⟩ => ⟨G2, g2, R2.gh⟩) ?_ ?_
  · rintro i x σ2 H2 H3 hi ⟨G2, ρ2, g2, R2, p2⟩ y
    obtain ⟨G3, d, hd, gr, dr⟩ := hy i H2 x H3 G2 g2 R2.gh hi y
    have R3 := R2.gr gr
    rw [List.drop_eq_getElem_cons hi] at p2
    have hd2 : ds[i] = d := by
      rw [List.getElem?_eq_getElem hi] at hd
      exact Option.some.inj hd
    rw [hd2] at p2
    have p3 : PostS e W Fo G2 σ2 ρ2 (match t d ρ2 with
      | .nx ρ1 => (match b ρ1 with
        | .nx ρ2 => loopS t b (ds.drop (i + 1)) ρ2
        | .ct ρ2 => loopS t b (ds.drop (i + 1)) ρ2
        | .bk ρ2 => .nx ρ2
        | o => o)
      | _ => .bad) En := p2
    cases q : t d ρ2 with
    | nx ρ3 =>
      rw [q] at p3
      refine ⟨Fo, G3, ρ2, d, R3, dr, ρ3, q, fun G4 σ4 H4 g4 k4 R4 _ _ => ⟨Fo, G4, ρ3, R4, ?_⟩⟩
      have p4 := p3.from (gr.g.trans g4) k4
      cases q5 : b ρ3 with
      | nx ρ5 =>
        simp only [q5] at p4
        exact fun G5 σ5 H5 g5 k5 R5 => ⟨G5, ρ5, ((g2.trans gr.g).trans g4).trans g5, R5, p4.from g5 k5⟩
      | ct ρ5 =>
        simp only [q5] at p4
        exact fun G5 σ5 H5 g5 k5 R5 => ⟨G5, ρ5, ((g2.trans gr.g).trans g4).trans g5, R5, p4.from g5 k5⟩
      | bk ρ5 =>
        simp only [q5] at p4
        exact p4
      | rt ρ5 s =>
        simp only [q5] at p4
        exact p4
      | exc ρ5 c fs =>
        simp only [q5] at p4
        exact p4
      | bad =>
        simp only [q5] at p4
        exact p4
    | bk ρ3 => rw [q] at p3; exact p3.elim
    | ct ρ3 => rw [q] at p3; exact p3.elim
    | rt ρ3 s => rw [q] at p3; exact p3.elim
    | exc ρ3 c fs => rw [q] at p3; exact p3.elim
    | bad => rw [q] at p3; exact p3.elim
  · rintro σ2 H2 ⟨G2, ρ2, g2, R2, p2⟩
    rw [List.drop_length] at p2
    exact p2 G2 σ2 H2 (L2.Same.refl _) (KeepS.refl _ _) R2

/-! ### while -/
def whileL (t : Mo Bool) (body : So) : Nat → So
  | 0 => fun _ => .bad
  | n + 1 => fun ρ => match t ρ with
    | .ok ρ1 true => (match body ρ1 with
      | .nx ρ2 => whileL t body n ρ2
      | .ct ρ2 => whileL t body n ρ2
      | .bk ρ2 => .nx ρ2
      | o => o)
    | .ok ρ1 false => .nx ρ1
    | .exc ρ1 c fs => .exc ρ1 c fs
    | .bad => .bad
def whileS (m : List Sl → Nat) (t : Mo Bool) (body : So) : So := fun ρ => whileL t body (m ρ) ρ
theorem ss_while {c : Expr} {body : List Stmt} {m : List Sl → Nat} {t : Mo Bool} {b : So} {pos : Pos} (C : EC X e W) (hc : PT X c (tT e W t)) (hb : PSs X body (tS e W b)) : PS X (.While c body [] pos) (tS e W (whileS m t b)) := (ps_while C.hp hc hb).imp fun En σ H ⟨Fo, G, ρ, R, p⟩ => by
  refine ⟨fun n σ2 H2 => ∃ (G2 : Hp) (ρ2 : List Sl), Rel e Fo G2 σ2 H2 ρ2 ∧ PostS e W Fo G2 σ2 ρ2 (whileL t b n ρ2) En, ⟨m ρ, G, ρ, R, p⟩, ?_⟩
  rintro n σ2 H2 ⟨G2, ρ2, R2, p2⟩
  refine ⟨Fo, G2, ρ2, R2, ?_⟩
  cases n with
  | zero => exact p2.elim
  | succ n =>
    unfold whileL at p2
    cases q : t ρ2 with
    | ok ρ3 k =>
      rw [q] at p2
      intro G3 H3 v g3 k3 R3 hv
      cases (show v = k from hv)
      cases k with
      | true =>
        refine iteT ⟨fun σ4 H4 => ∃ (G4 : Hp) (ρ4 : List Sl), Rel e Fo G4 σ4 H4 ρ4 ∧ PostS e W Fo G4 σ4 ρ4 (whileL t b n ρ4) En, fun σ' H' h => ⟨n, Nat.lt_succ_self _, h⟩, Fo, G3, ρ3, R3, ?_⟩
        have p4 := p2.from g3 k3.toS
        cases q5 : b ρ3 with
        | nx ρ5 =>
          simp only [q5] at p4
          exact fun G5 σ5 H5 g5 k5 R5 => ⟨G5, ρ5, R5, p4.from g5 k5⟩
        | ct ρ5 =>
          simp only [q5] at p4
          exact fun G5 σ5 H5 g5 k5 R5 => ⟨G5, ρ5, R5, p4.from g5 k5⟩
        | bk ρ5 =>
          simp only [q5] at p4
          exact p4
        | rt ρ5 s =>
          simp only [q5] at p4
          exact p4
        | exc ρ5 c fs =>
          simp only [q5] at p4
          exact p4
        | bad =>
          simp only [q5] at p4
          exact p4
      | false => exact iteF (p2 G3 σ2 H3 g3 k3.toS R3)
    | exc ρ3 c fs =>
      rw [q] at p2
      exact fun G' H' cls od g k R' x => p2 G' σ2 H' cls od g k.toS R' x
    | bad =>
      rw [q] at p2
      exact p2.elim
end
end L2.WD
/-! The data layer, part 5: comprehensions. -/
namespace L2.WD
open PySem PySem.Spec PyProof.Rows

abbrev WF : WX := fun _ _ _ _ => False
section
variable {e : Ev} {Fo G G' H H' : Hp} {σ σ' : St} {ρ ρ' : List Sl} {p : Addr} {o u : HO}
theorem SlRs.of_get : ∀ {σ : St} {ρ : List Sl}, σ.length = ρ.length → (∀ (i : Nat) (o : Option V) (s : Sl), σ[i]? = some o → ρ[i]? = some s → SlR e Fo G H o s) → SlRs e Fo G H σ ρ
  | [], [], _, _ => .nil
  | [], _ :: _, h, _ => by simp at h
  | _ :: _, [], h, _ => by simp at h
  | o :: σ, s :: ρ, h, k => .cons (k 0 o s rfl rfl) (SlRs.of_get (by simpa using h) fun i o s h1 h2 => k (i + 1) o s (by simpa using h1) (by simpa using h2))
/-- a new list that is being made: no slot has it -/
theorem Rel.frame (R : Rel e Fo G σ H ρ) (n : H p = none) : Rel e (upd Fo p o) G σ (upd H p o) ρ := by
  have fn := R.fnone n
  have gn := R.gnone n
  have hs := same_upd (o := o) n
  refine ⟨R.gh.trans hs, fun b q z => ?_, fun b q z => ?_, R.sl.imp fun i o' s _ _ r => ?_, R.ap⟩
  · by_cases hb : b = p
    · subst hb
      rw [upd_same] at z ⊢
      exact z
    · rw [upd_ne hb] at z ⊢
      exact R.fh _ _ z
  · by_cases hb : b = p
    · subst hb
      exact gn
    · rw [upd_ne hb] at z
      exact R.fg b q z
  · cases r with
    | no => exact .no
    | fz r => exact .fz r
    | own q =>
      cases q with
      | ow k1 k2 k3 k4 => exact .own (.ow (hs _ _ k1) k2 k3 (by rw [upd_ne (ne_of_none k1 n)]; exact k4))
      | oo k1 k2 k3 k4 k5 k6 k7 => exact .own (.oo (hs _ _ k1) (hs _ _ k2) k3 k4 k5 (by rw [upd_ne (ne_of_none k1 n)]; exact k6) (by rw [upd_ne (ne_of_none k2 n)]; exact k7))
theorem Rel.reframe (R : Rel e (upd Fo p o) G σ H ρ) : Rel e (upd Fo p u) G σ (upd H p u) ρ := by
  have hp : H p = some o := R.fh _ _ upd_same
  have gn : G p = none := R.fg p o upd_same
  have ne : ∀ {b : Addr}, (upd Fo p o) b = none → b ≠ p := fun {b} h z => by rw [z, upd_same] at h; cases h
  have nu : ∀ {b : Addr}, (upd Fo p o) b = none → (upd Fo p u) b = none := fun {b} h => by
    have hb := ne h
    rw [upd_ne hb] at h ⊢
    exact h
  refine ⟨fun b q z => ?_, fun b q z => ?_, fun b q z => ?_, R.sl.imp fun i o' s _ _ r => ?_, R.ap⟩
  · have hb : b ≠ p := fun y => by rw [y, gn] at z; cases z
    rw [upd_ne hb]
    exact R.gh _ _ z
  · by_cases hb : b = p
    · subst hb
      rw [upd_same] at z ⊢
      exact z
    · rw [upd_ne hb] at z ⊢
      exact R.fh _ _ (by rw [upd_ne hb]; exact z)
  · by_cases hb : b = p
    · subst hb
      exact gn
    · rw [upd_ne hb] at z
      exact R.fg b q (by rw [upd_ne hb]; exact z)
  · cases r with
    | no => exact .no
    | fz r => exact .fz r
    | own q =>
      cases q with
      | ow k1 k2 k3 k4 => exact .own (.ow (by rw [upd_ne (ne k4)]; exact k1) k2 k3 (nu k4))
      | oo k1 k2 k3 k4 k5 k6 k7 => exact .own (.oo (by rw [upd_ne (ne k6)]; exact k1) (by rw [upd_ne (ne k7)]; exact k2) k3 k4 k5 (nu k6) (nu k7))
theorem Rel.unframe (R : Rel e (upd Fo p o) G σ H ρ) (n : Fo p = none) : Rel e Fo G σ H ρ := by
  have ne : ∀ {b : Addr}, (upd Fo p o) b = none → b ≠ p := fun {b} h z => by rw [z, upd_same] at h; cases h
  have s : L2.Same Fo (upd Fo p o) := same_upd n
  refine ⟨R.gh, fun b q z => R.fh _ _ (s _ _ z), fun b q z => R.fg b q (s _ _ z), R.sl.imp fun i o' s _ _ r => ?_, R.ap⟩
  cases r with
  | no => exact .no
  | fz r => exact .fz r
  | own q =>
    cases q with
    | ow k1 k2 k3 k4 => exact .own (.ow k1 k2 k3 (s.free k4))
    | oo k1 k2 k3 k4 k5 k6 k7 => exact .own (.oo k1 k2 k3 k4 k5 (s.free k6) (s.free k7))

/-! ### a block's own names -/
def wipeD (ρ : List Sl) : List Nat → List Sl
  | [] => ρ
  | v :: vs => (wipeD ρ vs).set v .no
def mixD (ρ0 ρ : List Sl) : List Nat → List Sl
  | [] => ρ
  | v :: vs => (mixD ρ0 ρ vs).set v (ρ0.getD v .no)
theorem wipe_get (σ : St) (j : Nat) : ∀ vs : List Nat, (wipe σ vs)[j]? = if j ∈ vs then (if j < σ.length then some none else none) else σ[j]?
  | [] => by simp [wipe]
  | v :: vs => by
    unfold wipe
    by_cases h : j = v
    · subst h
      rw [if_pos (List.mem_cons_self ..)]
      by_cases k : j < σ.length
      · rw [if_pos k, List.getElem?_set_self (by rw [wipe_length]; exact k)]
      · rw [if_neg k, List.getElem?_eq_none (by simp [wipe_length]; omega)]
    · rw [List.getElem?_set_ne (Ne.symm h), wipe_get σ j vs]
      by_cases k : j ∈ vs
      · rw [if_pos k, if_pos (List.mem_cons_of_mem _ k)]
      · rw [if_neg k, if_neg fun z => (List.mem_cons.mp z).elim h k]
theorem wipeD_length (ρ : List Sl) : ∀ vs : List Nat, (wipeD ρ vs).length = ρ.length
  | [] => rfl
  | v :: vs => by unfold wipeD; rw [List.length_set, wipeD_length ρ vs]
theorem wipeD_get (ρ : List Sl) (j : Nat) : ∀ vs : List Nat, (wipeD ρ vs)[j]? = if j ∈ vs then (if j < ρ.length then some .no else none) else ρ[j]?
  | [] => by simp [wipeD]
  | v :: vs => by
    unfold wipeD
    by_cases h : j = v
    · subst h
      rw [if_pos (List.mem_cons_self ..)]
      by_cases k : j < ρ.length
      · rw [if_pos k, List.getElem?_set_self (by rw [wipeD_length]; exact k)]
      · rw [if_neg k, List.getElem?_eq_none (by simp [wipeD_length]; omega)]
    · rw [List.getElem?_set_ne (Ne.symm h), wipeD_get ρ j vs]
      by_cases k : j ∈ vs
      · rw [if_pos k, if_pos (List.mem_cons_of_mem _ k)]
      · rw [if_neg k, if_neg fun z => (List.mem_cons.mp z).elim h k]
theorem mixD_length (ρ0 ρ : List Sl) : ∀ vs : List Nat, (mixD ρ0 ρ vs).length = ρ.length
  | [] => rfl
  | v :: vs => by unfold mixD; rw [List.length_set, mixD_length ρ0 ρ vs]
theorem mixD_get (ρ0 ρ : List Sl) (j : Nat) : ∀ vs : List Nat, (mixD ρ0 ρ vs)[j]? = if j ∈ vs then (if j < ρ.length then some (ρ0.getD j .no) else none) else ρ[j]?
  | [] => by simp [mixD]
  | v :: vs => by
    unfold mixD
    by_cases h : j = v
    · subst h
      rw [if_pos (List.mem_cons_self ..)]
      by_cases k : j < ρ.length
      · rw [if_pos k, List.getElem?_set_self (by rw [mixD_length]; exact k)]
      · rw [if_neg k, List.getElem?_eq_none (by simp [mixD_length]; omega)]
    · rw [List.getElem?_set_ne (Ne.symm h), mixD_get ρ0 ρ j vs]
      by_cases k : j ∈ vs
      · rw [if_pos k, if_pos (List.mem_cons_of_mem _ k)]
      · rw [if_neg k, if_neg fun z => (List.mem_cons.mp z).elim h k]
def plainSl (ρ : List Sl) (v : Nat) : Bool := match ρ[v]? with
  | some .no => true
  | some (.fz _) => true
  | _ => false
theorem plainSl_own {v : Nat} {s : Sl} (h : plainSl ρ v = true) (e : ρ[v]? = some s) : s.owned = false := by
  unfold plainSl at h
  rw [e] at h
  cases s <;> first | rfl | cases h
theorem Sl.mine_owned {s : Sl} (h : s.mine = true) : s.owned = true := by cases s <;> first | rfl | cases h
theorem Rel.wipe (R : Rel e Fo G σ H ρ) (vs : List Nat) : Rel e Fo G (L2.wipe σ vs) H (wipeD ρ vs) := by
  refine ⟨R.gh, R.fh, R.fg, .of_get (by rw [wipe_length, wipeD_length, R.len]) fun j o s h1 h2 => ?_, fun i j b s t h1 h2 o1 o2 e1 e2 => ?_⟩
  · rw [wipe_get] at h1
    rw [wipeD_get] at h2
    by_cases k : j ∈ vs
    · rw [if_pos k] at h1 h2
      by_cases l : j < ρ.length
      · rw [if_pos l] at h2
        cases h2
        exact .no
      · rw [if_neg l] at h2
        cases h2
    · rw [if_neg k] at h1 h2
      obtain ⟨o', e1, r⟩ := R.get h2
      rw [h1] at e1
      cases e1
      exact r
  · rw [wipe_get] at e1 e2
    rw [wipeD_get] at h1 h2
    by_cases k : i ∈ vs
    · rw [if_pos k] at e1
      by_cases l : i < σ.length
      · rw [if_pos l] at e1; cases e1
      · rw [if_neg l] at e1; cases e1
    · rw [if_neg k] at e1 h1
      by_cases k2 : j ∈ vs
      · rw [if_pos k2] at e2
        by_cases l : j < σ.length
        · rw [if_pos l] at e2; cases e2
        · rw [if_neg l] at e2; cases e2
      · rw [if_neg k2] at e2 h2
        exact R.ap i j b s t h1 h2 o1 o2 e1 e2
theorem Rel.mix {G0 H0 : Hp} {ρ0 : List Sl} {σ2 : St} {vs : List Nat} (R : Rel e Fo G σ2 H ρ) (R0 : Rel e Fo G0 σ H0 ρ0) (g : L2.Same G0 G) (hl : σ2.length = σ.length) (ho : ∀ j, j ∉ vs → σ2[j]? = σ[j]?) (hp : ∀ v ∈ vs, plainSl ρ0 v = true) : Rel e Fo G σ H (mixD ρ0 ρ vs) := by
  have hlen : ρ.length = ρ0.length := by rw [← R.len, ← R0.len, hl]
  have own_no : ∀ {j : Nat} {s : Sl}, (mixD ρ0 ρ vs)[j]? = some s → s.owned = true → j ∉ vs := fun {j s} h ow k => by
    rw [mixD_get, if_pos k] at h
    by_cases l : j < ρ.length
    · rw [if_pos l] at h
      have h2 : ρ0[j]? = some s := by
        rw [List.getElem?_eq_getElem (show j < ρ0.length by omega)]
        rw [List.getD_eq_getElem?_getD, List.getElem?_eq_getElem (show j < ρ0.length by omega)] at h
        exact h
      rw [plainSl_own (hp j k) h2] at ow
      cases ow
    · rw [if_neg l] at h
      cases h
  refine ⟨R.gh, R.fh, R.fg, .of_get (by rw [mixD_length, hlen, R0.len]) fun j o s h1 h2 => ?_, fun i j b s t h1 h2 o1 o2 e1 e2 => ?_⟩
  · by_cases k : j ∈ vs
    · rw [mixD_get, if_pos k] at h2
      by_cases l : j < ρ.length
      · rw [if_pos l] at h2
        have h3 : ρ0[j]? = some s := by
          rw [List.getElem?_eq_getElem (show j < ρ0.length by omega)]
          rw [List.getD_eq_getElem?_getD, List.getElem?_eq_getElem (show j < ρ0.length by omega)] at h2
          exact h2
        obtain ⟨o', e1, r⟩ := R0.get h3
        rw [h1] at e1
        cases e1
        cases r with
        | no => exact .no
        | fz r => exact .fz (r.mono g)
        | own r =>
          have := r.at.2.2.2
          rw [plainSl_own (hp j k) h3] at this
          cases this
      · rw [if_neg l] at h2
        cases h2
    · rw [mixD_get, if_neg k] at h2
      obtain ⟨o', e1, r⟩ := R.get h2
      rw [ho j k, h1] at e1
      cases e1
      exact r
  · have k1 := own_no h1 o1
    have k2 := own_no h2 o2
    rw [mixD_get, if_neg k1] at h1
    rw [mixD_get, if_neg k2] at h2
    exact R.ap i j b s t h1 h2 o1 o2 (by rw [ho i k1]; exact e1) (by rw [ho j k2]; exact e2)

def compL (own : List Nat) (t : D → So) (tt : Mo Bool) (el : Mo D) : List D → Mo (List D)
  | [] => fun ρ => .ok ρ []
  | d :: ds => fun ρ => match t d (wipeD ρ own) with
    | .nx ρ1 => (match tt ρ1 with
      | .ok ρ2 true => (match el ρ2 with
        | .ok ρ3 y => (match compL own t tt el ds (mixD ρ ρ3 own) with
          | .ok ρ4 ys => .ok ρ4 (y :: ys)
          | _ => .bad)
        | _ => .bad)
      | .ok ρ2 false => compL own t tt el ds (mixD ρ ρ2 own)
      | _ => .bad)
    | _ => .bad
def compE (own : List Nat) (t : D → So) (tt : Mo Bool) (el : Mo D) (acc : List D) (ds : List D) : Mo Sl := fun ρ => match compL own t tt el ds ρ with
  | .ok ρ' ys => .ok ρ' (.ow false (acc ++ ys))
  | _ => .bad
theorem compE_cons {own : List Nat} {t : D → So} {tt : Mo Bool} {el : Mo D} {accD ds : List D} {d : D} {ρ2 : List Sl} : compE own t tt el accD (d :: ds) ρ2 = (match t d (wipeD ρ2 own) with
      | .nx ρ1 => (match tt ρ1 with
        | .ok ρ2' true => (match el ρ2' with
          | .ok ρ3 y => compE own t tt el (accD ++ [y]) ds (mixD ρ2 ρ3 own)
          | _ => .bad)
        | .ok ρ2' false => compE own t tt el accD ds (mixD ρ2 ρ2' own)
        | _ => .bad)
      | _ => .bad) := by
  unfold compE
  rw [compL]
  dsimp only
  cases t d (wipeD ρ2 own) with
  | nx ρ1 =>
    dsimp only
    cases tt ρ1 with
    | ok ρ2' k =>
      cases k with
      | true =>
        dsimp only
        cases el ρ2' with
        | ok ρ3 y =>
          dsimp only
          cases compL own t tt el ds (mixD ρ2 ρ3 own) with
          | ok ρ4 ys => simp
          | exc ρ4 c fs => rfl
          | bad => rfl
        | exc ρ3 c fs => rfl
        | bad => rfl
      | false => rfl
    | exc ρ2' c fs => rfl
    | bad => rfl
  | bk ρ1 => rfl
  | ct ρ1 => rfl
  | rt ρ1 s => rfl
  | exc ρ1 c fs => rfl
  | bad => rfl
def compX (own : List Nat) (f : Mo (List D)) (t : D → So) (tt : Mo Bool) (el : Mo D) : Mo Sl := Mo.bind f fun ds ρ => if ds.length < sizeLine ∧ (own.all (plainSl ρ)) = true then compE own t tt el [] ds ρ else .bad
def yesT : Mo Bool := fun ρ => .ok ρ true
theorem comp_core {K : PySem.W.Frag} {W : WX} {f : Mo (List D)} {own is : List Nat} {t : D → So} {tt : Mo Bool} {el : Mo D} {Q : VK} (his : ∀ j ∈ is, j ∈ own) (h : tX e W (compX own f t tt el) σ H Q) :
    tLc (tI e W f) (tgR e is t) (tT e WF tt) (tD e WF el) own σ H Q := by
  obtain ⟨Fo, G, ρ, R, p⟩ := h
  refine tG.mono (Post.bind R p) fun J H1 ⟨G1, ρ1, ds, g1, R1, ⟨Y, w, hy⟩, p1⟩ => ?_
  by_cases c : ds.length < sizeLine ∧ (own.all (plainSl ρ1)) = true
  case neg =>
    rw [if_neg c] at p1
    exact p1.elim
  rw [if_pos c] at p1
  intro Da nD
  have fD : Fo Da = none := R1.fnone nD
  refine lc_it w (fun i H2 => ∃ (G2 : Hp) (ρ2 : List Sl) (acc : List V) (accD : List D), L2.Same G1 G2 ∧ Rel e (upd Fo Da (.lst acc)) G2 σ H2 ρ2 ∧ DRs e G2 acc accD ∧ acc.length ≤ i ∧ (∀ v ∈ own, plainSl ρ2 v = true) ∧
      Post e W (fun e Fo G σ H ρ v s => Val e Fo G σ H ρ v s) Fo G2 σ ρ2 (compE own t tt el accD (ds.drop i) ρ2) Q)
    ⟨G1, ρ1, [], [], L2.Same.refl _, R1.frame nD, .nil, Nat.le_refl _, List.all_eq_true.mp c.2, p1⟩ (fun i H2 _ ⟨G2, ρ2, acc, accD, g2, R2, _⟩ => ⟨G2, g2, R2.gh⟩) ?_ ?_
  · rintro i x H2 H3 hi ⟨G2, ρ2, acc, accD, g2, R2, ra, la, pl, p2⟩ y
    obtain ⟨G3, d, hd, gr, dr⟩ := hy i H2 x H3 G2 g2 R2.gh hi y
    have R3 := R2.gr gr
    have R3w := R3.wipe own
    rw [List.drop_eq_getElem_cons hi] at p2
    have hd2 : ds[i] = d := by
      rw [List.getElem?_eq_getElem hi] at hd
      exact Option.some.inj hd
    rw [hd2] at p2
    have e2 : compE own t tt el accD (d :: ds.drop (i + 1)) ρ2 = (match t d (wipeD ρ2 own) with
      | .nx ρ1 => (match tt ρ1 with
        | .ok ρ2' true => (match el ρ2' with
          | .ok ρ3 y => compE own t tt el (accD ++ [y]) (ds.drop (i + 1)) (mixD ρ2 ρ3 own)
          | _ => .bad)
        | .ok ρ2' false => compE own t tt el accD (ds.drop (i + 1)) (mixD ρ2 ρ2' own)
        | _ => .bad)
      | _ => .bad) := by
      exact compE_cons
    rw [e2] at p2
    cases q1 : t d (wipeD ρ2 own) with
    | nx ρ3 =>
      simp only [q1] at p2
      refine ⟨_, G3, _, d, R3w, dr, ρ3, q1, fun G4 σ4 H4 g4 k4 R4 l4 o4 => ?_⟩
      have o4' : ∀ j, j ∉ own → σ4[j]? = σ[j]? := fun j hj => by
        rw [o4 j fun z => hj (his j z), wipe_get, if_neg hj]
      have l4' : σ4.length = σ.length := by rw [l4, wipe_length]
      refine ⟨?_, _, G4, ρ3, R4, ?_⟩
      · apply List.ext_getElem?
        intro j
        rw [wipe_get, wipe_get, l4']
        by_cases k : j ∈ own
        · rw [if_pos k, if_pos k]
        · rw [if_neg k, if_neg k, o4' j k]
      have kp : ∀ {ρ5 : List Sl}, Keep ρ3 ρ5 → Keep ρ2 (mixD ρ2 ρ5 own) := fun {ρ5} k5 j s hs hm => by
        have hj : j ∉ own := fun z => by
          have := plainSl_own (pl j z) hs
          rw [Sl.mine_owned hm] at this
          cases this
        obtain ⟨_, s1, h1, m1⟩ := k4 j s (by rw [wipeD_get, if_neg hj]; exact hs) hm
        obtain ⟨s2, h2, m2⟩ := k5 j s1 h1 m1
        exact ⟨s2, by rw [mixD_get, if_neg hj]; exact h2, m2⟩
      have mx : ∀ {ρ5 : List Sl} {G5 : Hp} {H5 : Hp}, Rel e (upd Fo Da (.lst acc)) G5 σ4 H5 ρ5 → L2.Same G4 G5 → Rel e (upd Fo Da (.lst acc)) G5 σ H5 (mixD ρ2 ρ5 own) := fun {ρ5 G5 H5} R5 g5 =>
        R5.mix R3 (g4.trans g5) l4' o4' pl
      have plm : ∀ {ρ5 : List Sl}, ρ5.length = ρ2.length → ∀ v ∈ own, plainSl (mixD ρ2 ρ5 own) v = true := fun {ρ5} hl v hv => by
        have h2 := pl v hv
        unfold plainSl at h2 ⊢
        rw [mixD_get, if_pos hv]
        cases q : ρ2[v]? with
        | none => rw [q] at h2; cases h2
        | some s =>
          have lt : v < ρ2.length := by
            by_cases z : v < ρ2.length
            · exact z
            · rw [List.getElem?_eq_none (by omega)] at q; cases q
          rw [if_pos (by omega), List.getD_eq_getElem?_getD, q]
          rw [q] at h2
          exact h2
      have ll : ∀ {ρ5 : List Sl} {G5 : Hp} {H5 : Hp}, Rel e (upd Fo Da (.lst acc)) G5 σ4 H5 ρ5 → ρ5.length = ρ2.length := fun R5 => by rw [← R5.len, l4', R2.len]
      cases q2 : tt ρ3 with
      | ok ρ4 k =>
        simp only [q2] at p2
        intro G5 H5 v g5 k5 R5 hv
        cases (show v = k from hv)
        cases k with
        | true =>
          simp only at p2
          refine iteT ⟨_, G5, ρ4, R5, ?_⟩
          cases q3 : el ρ4 with
          | ok ρ5 yd =>
            simp only [q3] at p2
            intro G6 H6 yv g6 k6 R6 ry
            have ry' : DR e G6 yv yd := ry
            refine ⟨acc, R6.fh _ _ upd_same, by omega, G6, mixD ρ2 ρ5 own, acc ++ [yv], accD ++ [yd], (((g2.trans gr.g).trans g4).trans g5).trans g6, (mx R6 (g5.trans g6)).reframe, (ra.mono (((gr.g.trans g4).trans g5).trans g6)).append (.cons ry' .nil), by simp; omega, plm (ll R6),
              p2.from (((gr.g.trans g4).trans g5).trans g6) (kp (k5.trans k6))⟩
          | exc ρ5 c fs => simp only [q3] at p2; exact p2.elim
          | bad => simp only [q3] at p2; exact p2.elim
        | false =>
          simp only at p2
          exact iteF ⟨G5, mixD ρ2 ρ4 own, acc, accD, ((g2.trans gr.g).trans g4).trans g5, mx R5 g5, ra.mono ((gr.g.trans g4).trans g5), by omega, plm (ll R5), p2.from ((gr.g.trans g4).trans g5) (kp k5)⟩
      | exc ρ4 c fs => simp only [q2] at p2; exact p2.elim
      | bad => simp only [q2] at p2; exact p2.elim
    | bk ρ3 => simp only [q1] at p2; exact p2.elim
    | ct ρ3 => simp only [q1] at p2; exact p2.elim
    | rt ρ3 s => simp only [q1] at p2; exact p2.elim
    | exc ρ3 c fs => simp only [q1] at p2; exact p2.elim
    | bad => simp only [q1] at p2; exact p2.elim
  · rintro H2 ⟨G2, ρ2, acc, accD, g2, R2, ra, la, pl, p2⟩
    rw [List.drop_length] at p2
    have p3 : Post e W (fun e Fo G σ H ρ v s => Val e Fo G σ H ρ v s) Fo G2 σ ρ2 (.ok ρ2 (.ow false (accD ++ []))) Q := p2
    rw [List.append_nil] at p3
    have hD : H2 Da = some (.lst acc) := R2.fh _ _ upd_same
    have gD : G2 Da = none := R2.fg _ _ upd_same
    refine p3 G2 H2 (.ref Da) (L2.Same.refl _) (Keep.refl _) (R2.unframe fD) ⟨.own (.ow hD ra gD fD), rfl, fun _ b i s ev hs ho he => ?_⟩
    cases ev
    obtain ⟨o, h1, h2⟩ := R2.get hs
    rw [he] at h1
    cases h1
    obtain ⟨b', e', q⟩ := h2.owned ho
    cases e'
    have := q.at.2.2.1
    rw [upd_same] at this
    cases this
end
section
variable {X : Cx} {e : Ev} {W : WX}
theorem xts_nil : PTs X [] (tT e WF yesT) := ⟨fun pins s σ H Q I ⟨Fo, G, ρ, R, p⟩ => pts_nil.run pins s σ H Q I (p.here R rfl)⟩
theorem xts_one {c : Expr} {t : Mo Bool} (h : PT X c (tT e WF t)) : PTs X [c] (tT e WF t) := pts_one h
/-- the block's context -/
theorem EC.blk (C : EC X e W) (s : Shared) (H : Hp) (scope : Scope) (cenv : Env) (fp : List Addr) : EC (X.blk s H scope cenv fp) e WF :=
  ⟨C.K, C.mg, C.nd, takes0, PassesOwn.never⟩
theorem xx_comp {elt tg iter : Expr} {ifs : List Expr} {scope : Scope} {own : List (Str × Nat)} {is : List Nat} {pos : Pos} {f : Mo (List D)} {t : D → So} {tt : Mo Bool} {el : Mo Sl} (C : EC X e W) (cm : X.calm = true) (hi : PI X tg iter (tI e W f)) (ok : BlkOk X.N X.env.scope scope own) (his : ∀ j ∈ is, j ∈ own.map (·.2))
    (hg : ∀ (Y : Cx), EC Y e WF → Y.calm = true → (∃ (s : Shared) (H : Hp) (Cc : Addr) (cl : List (Str × Addr)) (fp : List Addr), Y = X.blk s H scope (compEnvC scope cl Cc X.env) fp) → PG Y tg (tgR e is t) ∧ PTs Y ifs (tT e WF tt) ∧ PE Y elt (tX e WF el))
    (hs : ∀ x, foldedSetIterable iter X.env x = pure x := by intro _; rfl) : PE X (.ListComp elt [⟨tg, iter, ifs, 0⟩] scope pos) (tX e W (compX (own.map (·.2)) f t tt (frzD el))) :=
  (pe_lc cm C.nd hi ok (fun s H Cc cl fp => (hg _ (C.blk s H scope _ fp) cm ⟨s, H, Cc, cl, fp, rfl⟩).1) (fun s H Cc cl fp => (hg _ (C.blk s H scope _ fp) cm ⟨s, H, Cc, cl, fp, rfl⟩).2.1) (fun s H Cc cl fp => xd_of (hg _ (C.blk s H scope _ fp) cm ⟨s, H, Cc, cl, fp, rfl⟩).2.2) hs).imp fun σ H Q h => comp_core (K := e.K) his h
end
end L2.WD
/-! The data layer, part 6: tests, operators, subscripts. -/
namespace L2.WD
open PySem PySem.Spec PyProof.Rows

/-! ### truth -/
def truD : D → Option Bool
  | .non => some false
  | .bl b => some b
  | .int i => some (i != 0)
  | .str s => if s.length ≤ sizeLine then some ((s.length : Int) != 0) else none
  | .lst xs => some (!xs.isEmpty)
  | .tup xs => some (!xs.isEmpty)
  | .dic xs => some (!xs.isEmpty)
  | .scr xs => some (!xs.isEmpty)
  | _ => none
section
variable {e : Ev} {G H : Hp} {v : V} {d : D} {k : Bool}
theorem DRs.isEmpty {vs : List V} {ds : List D} (h : DRs e G vs ds) : vs.isEmpty = ds.isEmpty := by cases h <;> rfl
theorem DRk.isEmpty {vs : List (Key × V)} {ds : List (Key × D)} (h : DRk e G vs ds) : vs.isEmpty = ds.isEmpty := by cases h <;> rfl
theorem tru_co {K : PySem.W.Frag} (hK : K = e.K) (g : L2.Same G H) (h : CoR e G H v d) (t : truD d = some k) : TruV K v H k := by
  subst hK
  cases d with
  | non => cases h.non; cases t; rfl
  | bl b => cases h.bl; cases t; rfl
  | int i => cases h.int; cases t; rfl
  | str s =>
    cases h.str
    simp only [truD] at t
    by_cases c : s.length ≤ sizeLine
    · rw [if_pos c] at t
      cases t
      exact ⟨c, rfl⟩
    · rw [if_neg c] at t
      cases t
  | lst xs =>
    obtain ⟨b, ws, rfl, h1, h2⟩ := h.lst g
    cases t
    exact .inl ⟨ws, SqL.of h1, by rw [h2.isEmpty]⟩
  | tup xs =>
    obtain ⟨b, ws, rfl, h1, h2⟩ := h.tup g
    cases t
    exact .inr (.inl ⟨ws, h1, by rw [h2.isEmpty]⟩)
  | dic xs =>
    cases h with
    | st r =>
      cases r with
      | dic h1 h2 =>
        cases t
        exact .inr (.inr ⟨_, g _ _ h1, by rw [h2.isEmpty]⟩)
  | scr ns =>
    obtain ⟨b, rfl, h1⟩ := h.scr g
    cases t
    exact .inl ⟨_, h1, by simp⟩
  | _ => cases t
end
def truO (f : Mo Ar) : Mo Bool := Mo.bind f fun a ρ => match con ρ a with
  | some d => retO ρ (truD d)
  | none => .bad
def tstB (f : Mo Sl) : Mo Bool := Mo.bind f fun s ρ => match s with
  | .fz (.bl b) => .ok ρ b
  | _ => .bad
def andT (t u : Mo Bool) : Mo Bool := Mo.bind t fun c => if c = true then u else Mo.pure false
def orT (t u : Mo Bool) : Mo Bool := Mo.bind t fun c => if c = true then Mo.pure true else u
def notT (t : Mo Bool) : Mo Bool := Mo.bind t fun c => Mo.pure (!c)
def notX (f : Mo Ar) : Mo Sl := Mo.bind (truO f) fun c => Mo.pure (.fz (.bl (!c)))
def andO (f g : Mo Ar) : Mo Ar := Mo.bind f fun a ρ => match con ρ a with
  | some d => (match truD d with
    | some true => g ρ
    | some false => .ok ρ a
    | none => .bad)
  | none => .bad
def orO (f g : Mo Ar) : Mo Ar := Mo.bind f fun a ρ => match con ρ a with
  | some d => (match truD d with
    | some true => .ok ρ a
    | some false => g ρ
    | none => .bad)
  | none => .bad
def ifE {α : Type} (t : Mo Bool) (f g : Mo α) : Mo α := Mo.bind t fun c => if c = true then f else g
section
variable {X : Cx} {e : Ev} {W : WX} {a b c : Expr} {rest : List Expr} {pos : Pos} {fa fb : Mo Ar} {t u : Mo Bool}
theorem TruV.imp_of {K : PySem.W.Frag} : True := trivial
theorem tru_core {K : PySem.W.Frag} (hK : K = e.K) {σ : St} {H : Hp} {Q : Bool → Hp → Prop} (h : tT e W (truO fa) σ H Q) : tO e W fa σ H fun x H' => ∃ k, TruV K x H' k ∧ Q k H' := by
  obtain ⟨Fo, G0, ρ, R, p⟩ := h
  refine tG.mono (Post.bind R p) fun x H1 ⟨G1, ρ1, a1, g1, R1, r1, p1⟩ => ?_
  cases q1 : con ρ1 a1 with
  | none => simp only [q1] at p1; exact p1.elim
  | some d1 =>
    simp only [q1] at p1
    cases q3 : truD d1 with
    | none => simp only [q3, retO] at p1; exact p1.elim
    | some k =>
      simp only [q3, retO] at p1
      exact ⟨k, tru_co hK R1.gh (r1.co R1 q1) q3, p1.here R1 rfl⟩
theorem xt_tru (C : EC X e W) (ha : PE X a (tO e W fa)) (he : ∀ whole, isTrue a X.env whole = (do let v ← whole; standAt a.pos; holding [v] (truthy v)) := by intro _; rfl) : PT X a (tT e W (truO fa)) :=
  (pt_truth ha he).imp fun σ H Q h => tru_core C.K h
theorem tst_core {f : Mo Sl} {σ : St} {H : Hp} {Q : Bool → Hp → Prop} (h : tT e W (tstB f) σ H Q) : tX e W f σ H fun x H' => ∃ k, x = .bl k ∧ Q k H' := by
  obtain ⟨Fo, G0, ρ, R, p⟩ := h
  refine tG.mono (Post.bind R p) fun x H1 ⟨G1, ρ1, s, g1, R1, r1, p1⟩ => ?_
  cases s with
  | fz d =>
    cases d with
    | bl k =>
      obtain ⟨r, _⟩ := r1
      cases r with
      | fz r =>
        cases r
        exact ⟨k, rfl, p1.here R1 rfl⟩
      | own r => cases r
    | _ => exact p1.elim
  | _ => exact p1.elim
theorem xt_cmp {op : CmpOp} {r : R2} {g : D → D → Option Sl} (ho : OpR X (compareOp op) r) (hg : OpG e r g) (ha : PE X a (tO e W fa)) (hb : PE X b (tO e W fb)) (hm : behindInMarks op b = false) : PT X (.Compare a [op] [b] pos) (tT e W (tstB (binX g fa fb))) :=
  (pt_cmpR ho ha hb hm).imp fun σ H Q h => bin_core hg (tst_core h)
theorem and_core {σ : St} {H : Hp} {Q : Bool → Hp → Prop} (h : tT e W (andT t u) σ H Q) : tAnd (tT e W t) (tT e W u) σ H Q := by
  obtain ⟨Fo, G0, ρ, R, p⟩ := h
  refine tG.mono (Post.bind R p) fun c H1 ⟨G1, ρ1, k, g1, R1, r1, p1⟩ => ?_
  cases (show c = k from r1)
  cases c with
  | true => exact iteT ⟨Fo, G1, ρ1, R1, p1⟩
  | false => exact iteF (Post.here (v := false) R1 p1 rfl)
theorem or_core {σ : St} {H : Hp} {Q : Bool → Hp → Prop} (h : tT e W (orT t u) σ H Q) : tOr (tT e W t) (tT e W u) σ H Q := by
  obtain ⟨Fo, G0, ρ, R, p⟩ := h
  refine tG.mono (Post.bind R p) fun c H1 ⟨G1, ρ1, k, g1, R1, r1, p1⟩ => ?_
  cases (show c = k from r1)
  cases c with
  | false => exact iteF ⟨Fo, G1, ρ1, R1, p1⟩
  | true => exact iteT (Post.here (v := true) R1 p1 rfl)
theorem not_core {σ : St} {H : Hp} {Q : Bool → Hp → Prop} (h : tT e W (notT t) σ H Q) : tT e W t σ H fun c H1 => Q (!c) H1 := by
  obtain ⟨Fo, G0, ρ, R, p⟩ := h
  refine tG.mono (Post.bind R p) fun c H1 ⟨G1, ρ1, k, g1, R1, r1, p1⟩ => ?_
  cases (show c = k from r1)
  exact Post.here (v := !c) R1 p1 rfl
theorem xw_and1 (ha : PT X a (tT e W t)) : PW X (.BoolOp .And [a] pos) (tT e W t) := pw_and1 ha
theorem xw_or1 (ha : PT X a (tT e W t)) : PW X (.BoolOp .Or [a] pos) (tT e W t) := pw_or1 ha
theorem xw_and (ha : PT X a (tT e W t)) (hb : PW X (.BoolOp .And (b :: rest) pos) (tT e W u)) : PW X (.BoolOp .And (a :: b :: rest) pos) (tT e W (andT t u)) := (pw_and ha hb).imp fun _ _ _ h => and_core h
theorem xw_or (ha : PT X a (tT e W t)) (hb : PW X (.BoolOp .Or (b :: rest) pos) (tT e W u)) : PW X (.BoolOp .Or (a :: b :: rest) pos) (tT e W (orT t u)) := (pw_or ha hb).imp fun _ _ _ h => or_core h
theorem xt_not (ha : PT X a (tT e W t)) : PT X (.UnaryOp .Not a pos) (tT e W (notT t)) := (pt_not ha).imp fun _ _ _ h => not_core h
theorem xx_not (C : EC X e W) (ha : PE X a (tO e W fa)) : PE X (.UnaryOp .Not a pos) (tX e W (notX fa)) := (pe_notT ha).imp fun σ H Q ⟨Fo, G, ρ, R, p⟩ =>
  tru_core C.K (tG.mono (Post.bind R p) fun c H1 ⟨G1, ρ1, k, g1, R1, r1, p1⟩ => by
    cases (show c = k from r1)
    exact Post.here (v := V.bl (!c)) R1 p1 (.fz (.bl _)))
theorem xo_one {op : BoolOp} (ha : PE X a (tO e W fa)) : PE X (.BoolOp op [a] pos) (tO e W fa) := pe_one ha
theorem xo_and (C : EC X e W) (ha : PE X a (tO e W fa)) (hb : PE X (.BoolOp .And (b :: rest) pos) (tO e W fb)) : PE X (.BoolOp .And (a :: b :: rest) pos) (tO e W (andO fa fb)) := (pe_andT ha hb).imp fun σ H Q ⟨Fo, G, ρ, R, p⟩ => by
  refine tG.mono (Post.bind R p) fun x H1 ⟨G1, ρ1, a1, g1, R1, r1, p1⟩ => ?_
  cases q1 : con ρ1 a1 with
  | none => simp only [q1] at p1; exact p1.elim
  | some d1 =>
    simp only [q1] at p1
    cases q3 : truD d1 with
    | none => simp only [q3] at p1; exact p1.elim
    | some k =>
      simp only [q3] at p1
      refine ⟨k, tru_co C.K R1.gh (r1.co R1 q1) q3, ?_⟩
      cases k with
      | true => exact iteT ⟨Fo, G1, ρ1, R1, p1⟩
      | false => exact iteF (p1.here R1 r1)
theorem xo_or (C : EC X e W) (ha : PE X a (tO e W fa)) (hb : PE X (.BoolOp .Or (b :: rest) pos) (tO e W fb)) : PE X (.BoolOp .Or (a :: b :: rest) pos) (tO e W (orO fa fb)) := (pe_orT ha hb).imp fun σ H Q ⟨Fo, G, ρ, R, p⟩ => by
  refine tG.mono (Post.bind R p) fun x H1 ⟨G1, ρ1, a1, g1, R1, r1, p1⟩ => ?_
  cases q1 : con ρ1 a1 with
  | none => simp only [q1] at p1; exact p1.elim
  | some d1 =>
    simp only [q1] at p1
    cases q3 : truD d1 with
    | none => simp only [q3] at p1; exact p1.elim
    | some k =>
      simp only [q3] at p1
      refine ⟨k, tru_co C.K R1.gh (r1.co R1 q1) q3, ?_⟩
      cases k with
      | false => exact iteF ⟨Fo, G1, ρ1, R1, p1⟩
      | true => exact iteT (p1.here R1 r1)
theorem xx_ifE {α : Type} {Rl : RlT α V} {f g : Mo α} (hc : PT X c (tT e W t)) (ha : PE X a (tG e W Rl f)) (hb : PE X b (tG e W Rl g)) : PE X (.IfExp c a b pos) (tG e W Rl (ifE t f g)) := (pe_ifExp hc ha hb).imp fun σ H Q ⟨Fo, G, ρ, R, p⟩ => by
  refine tG.mono (Post.bind R p) fun x H1 ⟨G1, ρ1, k, g1, R1, r1, p1⟩ => ?_
  cases (show x = k from r1)
  cases x with
  | false => exact iteF ⟨Fo, G1, ρ1, R1, p1⟩
  | true => exact iteT ⟨Fo, G1, ρ1, R1, p1⟩
/-! ### chains -/
def chX (g g' : D → D → Option Sl) (fa fb fc : Mo Ar) : Mo Sl := Mo.bind fa fun a => Mo.bind fb fun b ρ => match con ρ a, con ρ b with
  | some d1, some d2 => (match g d1 d2 with
    | some (.fz (.bl true)) => Mo.bind fc (fun c ρ' => match con ρ' b, con ρ' c with
      | some d2, some d3 => retO ρ' (g' d2 d3)
      | _, _ => .bad) ρ
    | some (.fz (.bl false)) => .ok ρ (.fz (.bl false))
    | _ => .bad)
  | _, _ => .bad
theorem chain_core {r r' : R2} {g g' : D → D → Option Sl} {fc : Mo Ar} (Gg : OpG e r g) (Gg' : OpG e r' g') {σ : St} {H : Hp} {Q : VK} (h : tX e W (chX g g' fa fb fc) σ H Q) : tChain r r' (tO e W fa) (tO e W fb) (tO e W fc) σ H Q := by
  obtain ⟨Fo, G0, ρ, R, p⟩ := h
  refine tG.mono (Post.bind R p) fun x H1 ⟨G1, ρ1, a1, g1, R1, r1, p1⟩ => ?_
  refine tG.mono (Post.bind R1 p1) fun y H2 ⟨G2, ρ2, a2, g2, R2, r2, p2⟩ => ?_
  cases q1 : con ρ2 a1 with
  | none => simp only [q1] at p2; exact p2.elim
  | some d1 =>
    cases q2 : con ρ2 a2 with
    | none => simp only [q1, q2] at p2; exact p2.elim
    | some d2 =>
      simp only [q1, q2] at p2
      cases q3 : g d1 d2 with
      | none => simp only [q3] at p2; exact p2.elim
      | some s =>
        simp only [q3] at p2
        refine Gg G2 H2 x y d1 d2 s _ R2.gh ((r1.mono g2 : ArR e Fo G2 σ H2 ρ2 x a1).co R2 q1) (r2.co R2 q2) q3 fun G3 H3 v gr n => ?_
        have R3 := R2.gr gr
        cases s with
        | fz d =>
          cases d with
          | bl k =>
            cases (show DR e G3 v (.bl k) from n)
            refine ⟨k, rfl, ?_⟩
            cases k with
            | false =>
              simp only at p2
              exact iteF (p2 G3 H3 _ gr.g (Keep.refl _) R3 (.fz (.bl _)))
            | true =>
              simp only at p2
              refine iteT (tG.mono (Post.bind R3 (p2.from gr.g (Keep.refl _))) fun z H4 ⟨G4, ρ4, a4, g4, R4, r4, p4⟩ => ?_)
              cases q4 : con ρ4 a2 with
              | none => simp only [q4] at p4; exact p4.elim
              | some d2' =>
                cases q5 : con ρ4 a4 with
                | none => simp only [q4, q5] at p4; exact p4.elim
                | some d3 =>
                  simp only [q4, q5] at p4
                  cases q6 : g' d2' d3 with
                  | none => simp only [q6, retO] at p4; exact p4.elim
                  | some s' =>
                    simp only [q6, retO] at p4
                    exact Gg' G4 H4 y z d2' d3 s' Q R4.gh ((r2.mono (gr.g.trans g4) : ArR e Fo G4 σ H4 ρ4 y a2).co R4 q4) (r4.co R4 q5) q6 fun G' H' v gr n => p4.new R4 gr n
          | _ => exact p2.elim
        | _ => exact p2.elim
theorem xx_chain {op op' : CmpOp} {r r' : R2} {g g' : D → D → Option Sl} {fc : Mo Ar} (ho : OpR X (compareOp op) r) (ho' : OpR X (compareOp op') r') (hg : OpG e r g) (hg' : OpG e r' g') (ha : PE X a (tO e W fa)) (hb : PE X b (tO e W fb)) (hc : PE X c (tO e W fc))
    (hm : lastMarks [op, op'] [b, c] = false := by with_unfolding_all rfl) : PE X (.Compare a [op, op'] [b, c] pos) (tX e W (chX g g' fa fb fc)) := (pe_chain ho ho' ha hb hc hm).imp fun _ _ _ h => chain_core hg hg' h
theorem xt_chain {op op' : CmpOp} {r r' : R2} {g g' : D → D → Option Sl} {fc : Mo Ar} (ho : OpR X (compareOp op) r) (ho' : OpR X (compareOp op') r') (hg : OpG e r g) (hg' : OpG e r' g') (ha : PE X a (tO e W fa)) (hb : PE X b (tO e W fb)) (hc : PE X c (tO e W fc))
    (hm : lastMarks [op, op'] [b, c] = false := by with_unfolding_all rfl) : PT X (.Compare a [op, op'] [b, c] pos) (tT e W (tstB (chX g g' fa fb fc))) := (pt_chain ho ho' ha hb hc hm).imp fun _ _ _ h => chain_core hg hg' (tst_core h)
end

/-! ### operators: rules for any of several kinds -/
def ror (r r' : R2) : R2 := fun x y H Q => r x y H Q ∨ r' x y H Q
section
variable {X : Cx} {e : Ev}
theorem opr_or {f : Value → Value → Sem Value} {r r' : R2} (h : OpR X f r) (h' : OpR X f r') : OpR X f (ror r r') := fun pins s σ H x y v u Q I rx ry q =>
  q.elim (fun q => h pins s σ H x y v u Q I rx ry q) fun q => h' pins s σ H x y v u Q I rx ry q
/-- + -/
def rAddU (K : PySem.W.Frag) : R2 := ror (rI0 fun i j => .int (i + j)) (ror (fun x y H Q => ∃ i j, x = .str i ∧ y = .str j ∧ i.length + j.length ≤ sizeLine ∧ Q (.str (i ++ j)) H) (ror rCat (rCatA K)))
theorem op_addU (C : X.K = e.K) : OpR X (binaryOp .Add) (rAddU e.K) := opr_or op_add (opr_or op_add_str (opr_or op_cat (by rw [← C]; exact op_catA)))
def addD : D → D → Option Sl
  | .int i, .int j => some (.fz (.int (i + j)))
  | .str a, .str b => if a.length + b.length ≤ sizeLine then some (.fz (.str (a ++ b))) else none
  | .lst xs, .lst ys => if xs.length + ys.length ≤ sizeLine then some (.ow false (xs ++ ys)) else none
  | .tup xs, .tup ys => if xs.length + ys.length ≤ sizeLine then some (.fz (.tup (xs ++ ys))) else none
  | _, _ => none
theorem Gr.new_tup {G H : Hp} {p : Addr} {ws : List V} {ds : List D} (g : L2.Same G H) (n : H p = none) (r : DRs e G ws ds) : Gr G H (upd G p (.tup ws)) (upd H p (.tup ws)) ∧ DR e (upd G p (.tup ws)) (.ref p) (.tup ds) :=
  ⟨Gr.lay2 g n, .tup (SqT.of upd_same) (r.mono (same_upd (g.free n)))⟩
theorem Gr.new_lst {G H : Hp} {p : Addr} {ws : List V} {ds : List D} (g : L2.Same G H) (n : H p = none) (r : DRs e G ws ds) : Gr G H G (upd H p (.lst ws)) ∧ New e H G (upd H p (.lst ws)) (.ref p) (.ow false ds) :=
  ⟨Gr.lay g n, rfl, p, ws, rfl, n, upd_same, r, g.free n⟩
theorem og_add : OpG e (rAddU e.K) addD := by
  intro G H x y d1 d2 s Q g h1 h2 hs q
  cases d1 with
  | int i =>
    cases d2 with
    | int j =>
      cases hs
      exact .inl ⟨i, j, h1.int, h2.int, q G H _ (Gr.refl g) (.int _)⟩
    | _ => cases hs
  | str a =>
    cases d2 with
    | str b =>
      simp only [addD] at hs
      by_cases c : a.length + b.length ≤ sizeLine
      · rw [if_pos c] at hs
        cases hs
        exact .inr (.inl ⟨a, b, h1.str, h2.str, c, q G H _ (Gr.refl g) (.str _)⟩)
      · rw [if_neg c] at hs
        cases hs
    | _ => cases hs
  | lst xs =>
    cases d2 with
    | lst ys =>
      simp only [addD] at hs
      by_cases c : xs.length + ys.length ≤ sizeLine
      · rw [if_pos c] at hs
        cases hs
        obtain ⟨b1, ws1, rfl, k1, k2⟩ := h1.lst g
        obtain ⟨b2, ws2, rfl, k3, k4⟩ := h2.lst g
        refine .inr (.inr (.inl ⟨b1, b2, ws1, ws2, rfl, rfl, k1, k3, by rw [k2.length, k4.length]; exact c, fun p np => ?_⟩))
        have := Gr.new_lst g np (k2.append k4)
        exact q _ _ _ this.1 this.2
      · rw [if_neg c] at hs
        cases hs
    | _ => cases hs
  | tup xs =>
    cases d2 with
    | tup ys =>
      simp only [addD] at hs
      by_cases c : xs.length + ys.length ≤ sizeLine
      · rw [if_pos c] at hs
        cases hs
        obtain ⟨b1, ws1, e1, k1, k2⟩ := h1.tup g
        obtain ⟨b2, ws2, e2, k3, k4⟩ := h2.tup g
        have d1 : DR e G x (.tup xs) := h1.dr fun _ z => nomatch z
        have d2 : DR e G y (.tup ys) := h2.dr fun _ z => nomatch z
        subst e1 e2
        refine .inr (.inr (.inr ⟨b1, b2, ws1, ws2, rfl, rfl, k1, k3, by rw [k2.length, k4.length]; exact c, fun z => ?_, fun _ z => ?_, fun _ _ p np => ?_⟩))
        · subst z
          cases k2
          exact q G H _ (Gr.refl g) d2
        · subst z
          cases k4
          rw [List.append_nil] at q
          exact q G H _ (Gr.refl g) d1
        · have := Gr.new_tup g np (k2.append k4)
          exact q _ _ _ this.1 this.2
      · rw [if_neg c] at hs
        cases hs
    | _ => cases hs
  | _ => cases d2 <;> cases hs
/-- -, *, //, %, ** of whole numbers -/
def intD (c : Int → Int → Bool) (f : Int → Int → Int) : D → D → Option Sl
  | .int i, .int j => if c i j = true then some (.fz (.int (f i j))) else none
  | _, _ => none
theorem og_int {C : Int → Int → Prop} {c : Int → Int → Bool} {f : Int → Int → Int} (hc : ∀ i j, c i j = true → C i j) : OpG e (rI C fun i j => .int (f i j)) (intD c f) := by
  intro G H x y d1 d2 s Q g h1 h2 hs q
  cases d1 with
  | int i =>
    cases d2 with
    | int j =>
      simp only [intD] at hs
      by_cases k : c i j = true
      · rw [if_pos k] at hs
        cases hs
        exact ⟨i, j, h1.int, h2.int, hc i j k, q G H _ (Gr.refl g) (.int _)⟩
      · rw [if_neg k] at hs
        cases hs
    | _ => cases hs
  | _ => cases d2 <;> cases hs
def subD : D → D → Option Sl := intD (fun _ _ => true) fun i j => i - j
theorem op_subU : OpR X (binaryOp .Sub) (rI (fun _ _ => True) fun i j => .int (i - j)) := fun pins s σ H x y v u Q I rx ry ⟨i, j, h1, h2, _, q⟩ => op_sub pins s σ H x y v u Q I rx ry ⟨i, j, h1, h2, q⟩
theorem og_sub : OpG e (rI (fun _ _ => True) fun i j => .int (i - j)) subD := og_int fun _ _ _ => trivial
def mulD : D → D → Option Sl := intD (fun i j => decide (i.natAbs.log2 + j.natAbs.log2 < 1000000)) fun i j => i * j
theorem og_mul : OpG e (rI CMulW fun i j => .int (i * j)) mulD := og_int fun i j h => (show i.natAbs.log2 + j.natAbs.log2 < 1000000 from of_decide_eq_true h)
def fdivD : D → D → Option Sl := intD (fun _ j => decide (0 < j ∧ j.natAbs.log2 < 9000)) fun i j => i / j
theorem og_fdiv : OpG e (rI CDivW fun i j => .int (i / j)) fdivD := og_int fun i j h => (show 0 < j ∧ j.natAbs.log2 < 9000 from of_decide_eq_true h)
def modD : D → D → Option Sl := intD (fun _ j => decide (0 < j)) fun i j => i % j
theorem og_mod : OpG e (rI (fun _ j => 0 < j) fun i j => .int (i % j)) modD := og_int fun _ _ h => of_decide_eq_true h
def powD : D → D → Option Sl := intD (fun i j => decide (0 ≤ j ∧ j ≤ 1000000 ∧ i.natAbs < 2 ^ 64)) fun i j => i ^ j.toNat
theorem og_pow : OpG e (rI CPow fun i j => .int (i ^ j.toNat)) powD := og_int fun i j h => (show 0 ≤ j ∧ j ≤ 1000000 ∧ i.natAbs < 2 ^ 64 from of_decide_eq_true h)
def shlD : D → D → Option Sl := intD (fun i j => decide (0 ≤ j ∧ j ≤ 1000000 ∧ i.natAbs < 2 ^ 64)) fun i j => i * 2 ^ j.toNat
theorem og_shl : OpG e (rI CPow fun i j => .int (i * 2 ^ j.toNat)) shlD := og_int fun i j h => (show 0 ≤ j ∧ j ≤ 1000000 ∧ i.natAbs < 2 ^ 64 from of_decide_eq_true h)
def shrD : D → D → Option Sl := intD (fun _ j => decide (0 ≤ j)) fun i j => i / 2 ^ j.toNat
theorem og_shr : OpG e (rI (fun _ j => 0 ≤ j) fun i j => .int (i / 2 ^ j.toNat)) shrD := og_int fun _ _ h => of_decide_eq_true h
/-! ### comparisons -/
def blS (b : Bool) : Option Sl := some (.fz (.bl b))
def cmpD (f : Int → Int → Bool) (g : Str → Str → Bool) : D → D → Option Sl
  | .int i, .int j => blS (f i j)
  | .str i, .str j => blS (g i j)
  | _, _ => none
def rCmp (f : Int → Int → Bool) (g : Str → Str → Bool) : R2 := ror (rI0 fun i j => .bl (f i j)) (fun x y H Q => ∃ i j, x = .str i ∧ y = .str j ∧ Q (.bl (g i j)) H)
theorem og_cmp {f : Int → Int → Bool} {g : Str → Str → Bool} : OpG e (rCmp f g) (cmpD f g) := by
  intro G H x y d1 d2 s Q gh h1 h2 hs q
  cases d1 with
  | int i =>
    cases d2 with
    | int j => cases hs; exact .inl ⟨i, j, h1.int, h2.int, q G H _ (Gr.refl gh) (.bl _)⟩
    | _ => cases hs
  | str i =>
    cases d2 with
    | str j => cases hs; exact .inr ⟨i, j, h1.str, h2.str, q G H _ (Gr.refl gh) (.bl _)⟩
    | _ => cases hs
  | _ => cases d2 <;> cases hs
def ltD := cmpD (fun i j => decide (i < j)) fun a b => decide (a.cps.toList < b.cps.toList)
def leD := cmpD (fun i j => decide (i ≤ j)) fun a b => !decide (b.cps.toList < a.cps.toList)
def gtD := cmpD (fun i j => decide (j < i)) fun a b => decide (b.cps.toList < a.cps.toList)
def geD := cmpD (fun i j => decide (j ≤ i)) fun a b => !decide (a.cps.toList < b.cps.toList)
theorem op_ltU : OpR X (compareOp .Lt) (rCmp (fun i j => decide (i < j)) fun a b => decide (a.cps.toList < b.cps.toList)) := opr_or op_lt op_lt_str
theorem op_leU : OpR X (compareOp .LtE) (rCmp (fun i j => decide (i ≤ j)) fun a b => !decide (b.cps.toList < a.cps.toList)) := opr_or op_le op_le_str
theorem op_gtU : OpR X (compareOp .Gt) (rCmp (fun i j => decide (j < i)) fun a b => decide (b.cps.toList < a.cps.toList)) := opr_or op_gt op_gt_str
theorem op_geU : OpR X (compareOp .GtE) (rCmp (fun i j => decide (j ≤ i)) fun a b => !decide (a.cps.toList < b.cps.toList)) := opr_or op_ge op_ge_str
mutual
def toPy : D → Option PyData
  | .non => some .none
  | .bl b => some (.bool b)
  | .int i => some (.int i)
  | .str s => some (.str s)
  | .lst xs => (toPys xs).map .list
  | .tup xs => (toPys xs).map .tuple
  | _ => none
def toPys : List D → Option (List PyData)
  | [] => some []
  | d :: ds => match toPy d, toPys ds with
    | some p, some ps => some (p :: ps)
    | _, _ => none
end
section
variable {K : PySem.W.Frag} {G H : Hp}
mutual
theorem dp_of (g : L2.Same G H) : ∀ (d : D) (v : V) (p : PyData), DR e G v d → toPy d = some p → Dp e.K H v p
  | .non, _, _, h, t => by cases h; cases t; exact .non
  | .bl b, _, _, h, t => by cases h; cases t; exact .bl _
  | .int i, _, _, h, t => by cases h; cases t; exact .int _
  | .str s, _, _, h, t => by cases h; cases t; exact .str _
  | .lst xs, _, _, h, t => by
    cases h with
    | lst h1 h2 =>
      unfold toPy at t
      obtain ⟨ps, t1, t2⟩ := Option.map_eq_some_iff.mp t
      subst t2
      exact .lst (SqL.of (g _ _ h1)) (dps_of g xs _ ps h2 t1)
  | .tup xs, _, _, h, t => by
    cases h with
    | tup h1 h2 =>
      unfold toPy at t
      obtain ⟨ps, t1, t2⟩ := Option.map_eq_some_iff.mp t
      subst t2
      exact .tup (Same.seqT g h1) (dps_of g xs _ ps h2 t1)
  | .dic _, _, _, _, t => by cases t
  | .obj _ _, _, _, _, t => by cases t
  | .exc _ _, _, _, _, t => by cases t
  | .cls _, _, _, _, t => by cases t
  | .fn _, _, _, _, t => by cases t
  | .ty _, _, _, _, t => by cases t
  | .scr _, _, _, _, t => by cases t
theorem dps_of (g : L2.Same G H) : ∀ (ds : List D) (vs : List V) (ps : List PyData), DRs e G vs ds → toPys ds = some ps → DpAll e.K H vs ps
  | [], _, _, h, t => by cases h; cases t; exact .nil
  | d :: ds, _, _, h, t => by
    cases h with
    | cons h1 h2 =>
      unfold toPys at t
      cases q1 : toPy d with
      | none => simp only [q1] at t; cases t
      | some p =>
        cases q2 : toPys ds with
        | none => simp only [q1, q2] at t; cases t
        | some ps =>
          simp only [q1, q2] at t
          cases t
          exact .cons (dp_of g d _ p h1 q1) (dps_of g ds _ ps h2 q2)
end
theorem dp_co (g : L2.Same G H) {d : D} {v : V} {p : PyData} (h : CoR e G H v d) (t : toPy d = some p) : Dp e.K H v p := by
  cases h with
  | st r => exact dp_of g d v p r t
  | ow h1 h2 =>
    unfold toPy at t
    obtain ⟨ps, t1, t2⟩ := Option.map_eq_some_iff.mp t
    subst t2
    exact .lst (SqL.of h1) (dps_of g _ _ ps h2 t1)
end
def eqD (neg : Bool) (d1 d2 : D) : Option Sl := match toPy d1, toPy d2 with
  | some a, some b => if (SeqAt.shaped a && SeqAt.shaped b) = true then blS (if neg then !PyData.eqv a b else PyData.eqv a b) else none
  | _, _ => none
theorem op_eqU (C : X.K = e.K) (hu : X.A.units + 64 < cLine) : OpR X (compareOp .Eq) (rEqD e.K) := by rw [← C]; exact op_eqD hu
theorem op_neU (C : X.K = e.K) (hu : X.A.units + 64 < cLine) : OpR X (compareOp .NotEq) (rNeD e.K) := by rw [← C]; exact op_neD hu
theorem og_eq : OpG e (rEqD e.K) (eqD false) := by
  intro G H x y d1 d2 s Q g h1 h2 hs q
  unfold eqD at hs
  cases q1 : toPy d1 with
  | none => simp only [q1] at hs; cases hs
  | some a =>
    cases q2 : toPy d2 with
    | none => simp only [q1, q2] at hs; cases hs
    | some b =>
      simp only [q1, q2] at hs
      by_cases c : (SeqAt.shaped a && SeqAt.shaped b) = true
      · rw [if_pos c] at hs
        cases hs
        obtain ⟨c1, c2⟩ := Bool.and_eq_true_iff.mp c
        exact ⟨a, b, dp_co g h1 q1, dp_co g h2 q2, c1, c2, q G H _ (Gr.refl g) (.bl _)⟩
      · rw [if_neg c] at hs
        cases hs
theorem og_ne : OpG e (rNeD e.K) (eqD true) := by
  intro G H x y d1 d2 s Q g h1 h2 hs q
  unfold eqD at hs
  cases q1 : toPy d1 with
  | none => simp only [q1] at hs; cases hs
  | some a =>
    cases q2 : toPy d2 with
    | none => simp only [q1, q2] at hs; cases hs
    | some b =>
      simp only [q1, q2] at hs
      by_cases c : (SeqAt.shaped a && SeqAt.shaped b) = true
      · rw [if_pos c] at hs
        cases hs
        obtain ⟨c1, c2⟩ := Bool.and_eq_true_iff.mp c
        exact ⟨a, b, dp_co g h1 q1, dp_co g h2 q2, c1, c2, q G H _ (Gr.refl g) (.bl _)⟩
      · rw [if_neg c] at hs
        cases hs
/-! ### is None -/
def isN (neg : Bool) (d1 d2 : D) : Option Sl := match d2 with
  | .non => (match d1 with
    | .non => blS (!neg)
    | _ => blS neg)
  | _ => none
theorem co_non {G H : Hp} {v : V} {d : D} (h : CoR e G H v d) : decide (v = .non) = (match d with | .non => true | _ => false) := by
  cases h with
  | st r => cases r <;> rfl
  | ow h1 h2 => rfl
theorem og_is : OpG e (fun x y H Q => y = .non ∧ Q (.bl (decide (x = .non))) H) (isN false) := by
  intro G H x y d1 d2 s Q g h1 h2 hs q
  cases d2 with
  | non =>
    refine ⟨h2.non, ?_⟩
    rw [co_non h1]
    cases d1 <;> (cases hs; exact q G H _ (Gr.refl g) (.bl _))
  | _ => cases hs
theorem og_isnot : OpG e (fun x y H Q => y = .non ∧ Q (.bl (!decide (x = .non))) H) (isN true) := by
  intro G H x y d1 d2 s Q g h1 h2 hs q
  cases d2 with
  | non =>
    refine ⟨h2.non, ?_⟩
    rw [co_non h1]
    cases d1 <;> (cases hs; exact q G H _ (Gr.refl g) (.bl _))
  | _ => cases hs
/-! ### in, not in -/
def flatD : D → Option V
  | .non => some .non
  | .bl b => some (.bl b)
  | .int i => some (.int i)
  | .str s => some (.str s)
  | _ => none
def flatsD : List D → Option (List V)
  | [] => some []
  | d :: ds => match flatD d, flatsD ds with
    | some v, some vs => some (v :: vs)
    | _, _ => none
theorem flat_of {G : Hp} {v w : V} {d : D} (h : DR e G v d) (f : flatD d = some w) : v = w ∧ flatV v = true := by
  cases h <;> cases f <;> exact ⟨rfl, rfl⟩
theorem flats_of {G : Hp} : ∀ {vs ws : List V} {ds : List D}, DRs e G vs ds → flatsD ds = some ws → vs = ws ∧ vs.all flatV = true
  | _, _, _, .nil, f => by cases f; exact ⟨rfl, rfl⟩
  | _, _, _, @DRs.cons _ _ v vs d ds h1 h2, f => by
    unfold flatsD at f
    cases q1 : flatD d with
    | none => simp only [q1] at f; cases f
    | some w =>
      cases q2 : flatsD ds with
      | none => simp only [q1, q2] at f; cases f
      | some ws =>
        simp only [q1, q2] at f
        cases f
        obtain ⟨rfl, e1⟩ := flat_of h1 q1
        obtain ⟨rfl, e2⟩ := flats_of h2 q2
        exact ⟨rfl, by rw [List.all_cons, e1, e2]; rfl⟩
def inSeq (neg : Bool) (d : D) (ds : List D) : Option Sl := match flatD d, flatsD ds with
  | some v, some vs => blS (if neg then !inV v vs else inV v vs)
  | _, _ => none
def inStr (neg : Bool) (a b : Str) : Option Sl := match a.cps.toList with
  | [c] => blS (if neg then !decide (c ∈ b.cps.toList) else decide (c ∈ b.cps.toList))
  | _ => blS (if neg then !(!(Builtin.Str.occurrences b a 0 b.length 1).isEmpty) else !(Builtin.Str.occurrences b a 0 b.length 1).isEmpty)
def inD (neg : Bool) : D → D → Option Sl
  | .str a, .str b => inStr neg a b
  | d, .lst ds => inSeq neg d ds
  | d, .tup ds => inSeq neg d ds
  | _, _ => none
def rInU (K : PySem.W.Frag) (neg : Bool) : R2 := ror (rIn K neg) (ror (fun x y H Q => ∃ (c : Nat) (z : Str), x = .str ⟨#[c]⟩ ∧ y = .str z ∧ Q (.bl (if neg then !decide (c ∈ z.cps.toList) else decide (c ∈ z.cps.toList))) H)
  (fun x y H Q => ∃ i j, x = .str i ∧ y = .str j ∧ Q (.bl (if neg then !(!(Builtin.Str.occurrences j i 0 j.length 1).isEmpty) else !(Builtin.Str.occurrences j i 0 j.length 1).isEmpty)) H))
theorem op_inU (C : X.K = e.K) : OpR X (compareOp .In) (rInU e.K false) := opr_or (by rw [← C]; exact op_in_seq) (opr_or op_in_sign op_in_str)
theorem op_notInU (C : X.K = e.K) : OpR X (compareOp .NotIn) (rInU e.K true) := opr_or (by rw [← C]; exact op_notIn_seq) (opr_or op_notIn_sign op_notIn_str)
theorem str_one {a : Str} {c : Nat} (h : a.cps.toList = [c]) : a = ⟨#[c]⟩ := by
  obtain ⟨x⟩ := a
  congr 1
  exact Array.toList_inj.mp h
theorem flatD_lst {d : D} {v : V} (f : flatD d = some v) : ∀ xs, d ≠ .lst xs := fun xs z => by subst z; cases f
theorem in_seq_co {neg : Bool} {G H : Hp} {x y : V} {d : D} {ds : List D} {s : Sl} {Q : VK} {b : Addr} {ws : List V} (g : L2.Same G H) (h1 : CoR e G H x d) (ey : y = .ref b) (k1 : SqL e.K H b ws ∨ SqT e.K H b ws) (k2 : DRs e G ws ds)
    (hs : inSeq neg d ds = some s) (q : ∀ G' H' v, Gr G H G' H' → New e H G' H' v s → Q v H') : rIn e.K neg x y H Q := by
  unfold inSeq at hs
  cases q1 : flatD d with
  | none => simp only [q1] at hs; cases hs
  | some v =>
    cases q2 : flatsD ds with
    | none => simp only [q1, q2] at hs; cases hs
    | some vs =>
      simp only [q1, q2] at hs
      cases hs
      obtain ⟨rfl, e1⟩ := flat_of (h1.dr (flatD_lst q1)) q1
      obtain ⟨rfl, e2⟩ := flats_of k2 q2
      exact ⟨b, _, ey, k1, e1, e2, q G H _ (Gr.refl g) (.bl _)⟩
theorem og_in {neg : Bool} : OpG e (rInU e.K neg) (inD neg) := by
  intro G H x y d1 d2 s Q g h1 h2 hs q
  cases d2 with
  | lst ds =>
    obtain ⟨b, ws, ey, k1, k2⟩ := h2.lst g
    refine .inl (in_seq_co g h1 ey (.inl (SqL.of k1)) k2 (s := s) ?_ q)
    cases d1 <;> exact hs
  | tup ds =>
    obtain ⟨b, ws, ey, k1, k2⟩ := h2.tup g
    refine .inl (in_seq_co g h1 ey (.inr k1) k2 (s := s) ?_ q)
    cases d1 <;> exact hs
  | str z =>
    cases d1 with
    | str a =>
      cases h1.str
      cases h2.str
      have hs : inStr neg a z = some s := hs
      unfold inStr at hs
      split at hs
      · rename_i c hc
        cases hs
        refine .inr (.inl ⟨c, z, by rw [← str_one hc], rfl, q G H _ (Gr.refl g) (.bl _)⟩)
      · cases hs
        exact .inr (.inr ⟨a, z, rfl, rfl, q G H _ (Gr.refl g) (.bl _)⟩)
    | _ => cases hs
  | _ => cases d1 <;> cases hs
/-! ### subscripts -/
theorem DRs.atI {G : Hp} {vs : List V} {ds : List D} (h : DRs e G vs ds) {i : Int} {d : D} (a : L2.atI ds i = some d) : ∃ v, L2.atI vs i = some v ∧ DR e G v d := by
  unfold L2.atI at a ⊢
  rw [h.length]
  obtain ⟨j, h1, h2⟩ := Option.bind_eq_some_iff.mp a
  obtain ⟨v, h3, h4⟩ := h.get h2
  exact ⟨v, by rw [h1]; exact h3, h4⟩
def ixD : D → D → Option Sl
  | .lst xs, .int i => (L2.atI xs i).map .fz
  | .tup xs, .int i => (L2.atI xs i).map .fz
  | .scr ns, .int i => (L2.atI ns i).map fun n => .fz (.int n)
  | .str z, .int i => if z.length ≤ sizeLine then (L2.atI z.cps.toList i).map fun c => .fz (.str ⟨#[c]⟩) else none
  | _, _ => none
theorem atI_map {α β : Type} (f : α → β) (xs : List α) (i : Int) : L2.atI (xs.map f) i = (L2.atI xs i).map f := by
  unfold L2.atI
  rw [List.length_map]
  cases ixN xs.length i with
  | none => rfl
  | some j => simp
theorem og_ix : OpG e (rIx e.K) ixD := by
  intro G H x y d1 d2 s Q g h1 h2 hs q
  cases d2 with
  | int i =>
    cases h2.int
    cases d1 with
    | lst xs =>
      obtain ⟨b, ws, rfl, k1, k2⟩ := h1.lst g
      obtain ⟨d, h3, h4⟩ := Option.map_eq_some_iff.mp (show (L2.atI xs i).map Sl.fz = some s from hs)
      subst h4
      obtain ⟨v, h5, h6⟩ := k2.atI h3
      exact .inl ⟨b, ws, i, v, rfl, rfl, SqL.of k1, h5, q G H _ (Gr.refl g) h6⟩
    | tup xs =>
      obtain ⟨b, ws, rfl, k1, k2⟩ := h1.tup g
      obtain ⟨d, h3, h4⟩ := Option.map_eq_some_iff.mp (show (L2.atI xs i).map Sl.fz = some s from hs)
      subst h4
      obtain ⟨v, h5, h6⟩ := k2.atI h3
      exact .inr (.inl ⟨b, ws, i, v, rfl, rfl, k1, h5, q G H _ (Gr.refl g) h6⟩)
    | scr ns =>
      obtain ⟨b, rfl, k1⟩ := h1.scr g
      obtain ⟨n, h3, h4⟩ := Option.map_eq_some_iff.mp (show (L2.atI ns i).map (fun n => Sl.fz (.int n)) = some s from hs)
      subst h4
      exact .inl ⟨b, _, i, .int n, rfl, rfl, k1, by rw [atI_map, h3]; rfl, q G H _ (Gr.refl g) (.int _)⟩
    | str z =>
      cases h1.str
      simp only [ixD] at hs
      by_cases c : z.length ≤ sizeLine
      · rw [if_pos c] at hs
        obtain ⟨n, h3, h4⟩ := Option.map_eq_some_iff.mp hs
        subst h4
        exact .inr (.inr ⟨z, i, n, rfl, rfl, c, h3, q G H _ (Gr.refl g) (.str _)⟩)
      · rw [if_neg c] at hs
        cases hs
    | _ => cases hs
  | _ => cases d1 <;> cases hs
theorem xx_ix {a b : Expr} {W : WX} {fa fb : Mo Ar} {pos : Pos} (C : X.K = e.K) (ha : PE X a (tO e W fa)) (hb : PE X b (tO e W fb)) (hs : PlainIx b) : PE X (.Subscript a b pos) (tX e W (binX ixD fa fb)) :=
  (pe_ix ix_seq ha hb hs).imp fun _ _ _ h => by rw [C]; exact bin_core og_ix h
/-! ### slices -/
def ORl : RlT (Option Int) (Option Int) := fun _ _ _ _ _ _ v a => v = a
def ptO (f : Mo Ar) : Mo (Option Int) := Mo.bind f fun a ρ => match con ρ a with
  | some (.int i) => .ok ρ (some i)
  | _ => .bad
def noO : Mo (Option Int) := fun ρ => .ok ρ none
theorem _root_.L2.PO.imp {ex : Option Expr} {t t' : TO} (h : PO X ex t) (i : ∀ σ H Q, t' σ H Q → t σ H Q) : PO X ex t' := ⟨fun pins s σ H Q I w => h.run pins s σ H Q I (i σ H Q w)⟩
theorem xp_none {W : WX} : PO X none (tG e W ORl noO) := po_none.imp fun σ H Q ⟨Fo, G, ρ, R, p⟩ => Post.here (v := none) R p rfl
theorem xp_some {W : WX} {a : Expr} {fa : Mo Ar} (h : PE X a (tO e W fa)) : PO X (some a) (tG e W ORl (ptO fa)) := (po_some h).imp fun σ H Q ⟨Fo, G, ρ, R, p⟩ => by
  refine tG.mono (Post.bind R p) fun x H1 ⟨G1, ρ1, a1, g1, R1, r1, p1⟩ => ?_
  cases q1 : con ρ1 a1 with
  | none => simp only [q1] at p1; exact p1.elim
  | some d =>
    simp only [q1] at p1
    cases d with
    | int i => exact ⟨i, (r1.co R1 q1).int, Post.here (v := some i) R1 p1 rfl⟩
    | _ => exact p1.elim
def cutD {α : Type} (xs : List α) (lo hi : Option Int) : List α := (xs.drop (HT.sIx xs.length 0 lo)).take (HT.sIx xs.length xs.length hi - HT.sIx xs.length 0 lo)
theorem DRs.cut {G : Hp} {vs : List V} {ds : List D} (h : DRs e G vs ds) (lo hi : Option Int) : DRs e G (cutV vs lo hi) (cutD ds lo hi) := by
  unfold cutV cutD
  rw [h.length]
  exact (h.drop _).take _
def slD (lo hi : Option Int) : D → Option Sl
  | .lst xs => some (.ow false (cutD xs lo hi))
  | .tup xs => some (.fz (.tup (cutD xs lo hi)))
  | .scr ns => some (.ow false (cutD (ns.map D.int) lo hi))
  | .str z => if z.length ≤ sizeLine then some (.fz (.str (cutS z lo hi))) else none
  | _ => none
def slX (f : Mo Ar) (lo hi : Mo (Option Int)) : Mo Sl := Mo.bind f fun a => Mo.bind lo fun l => Mo.bind hi fun u ρ => match con ρ a with
  | some d => retO ρ (slD l u d)
  | none => .bad
def rSlU (K : PySem.W.Frag) : V → Option Int → Option Int → Hp → VK → Prop := fun x lo hi H Q => rSlL K x lo hi H Q ∨ (rSlA K x lo hi H Q ∨ rSlS x lo hi H Q)
theorem sl_any : L2.SlR X (rSlU X.K) := sl_list.or (sl_tupA.or sl_str)
theorem cut_whole {G : Hp} {vs : List V} {ds : List D} {lo hi : Option Int} (h : DRs e G vs ds) (hw : HT.sIx vs.length 0 lo = 0 ∧ HT.sIx vs.length vs.length hi = vs.length) : cutD ds lo hi = ds := by
  unfold cutD
  rw [← h.length, hw.1, hw.2, List.drop_zero, Nat.sub_zero, h.length, List.take_length]
theorem xx_sl {a : Expr} {lo hi : Option Expr} {W : WX} {fa : Mo Ar} {fl fh : Mo (Option Int)} {pos p2 : Pos} (C : X.K = e.K) (ha : PE X a (tO e W fa)) (hl : PO X lo (tG e W ORl fl)) (hh : PO X hi (tG e W ORl fh)) : PE X (.Subscript a (.Slice lo hi none p2) pos) (tX e W (slX fa fl fh)) :=
  (pe_slice sl_any ha hl hh).imp fun σ H Q ⟨Fo, G, ρ, R, p⟩ => by
    refine tG.mono (Post.bind R p) fun x H1 ⟨G1, ρ1, a1, g1, R1, r1, p1⟩ => ?_
    refine tG.mono (Post.bind R1 p1) fun l H2 ⟨G2, ρ2, l2, g2, R2, r2, p2⟩ => ?_
    refine tG.mono (Post.bind R2 p2) fun u H3 ⟨G3, ρ3, u3, g3, R3, r3, p3⟩ => ?_
    cases (show l = l2 from r2)
    cases (show u = u3 from r3)
    rw [C]
    cases q1 : con ρ3 a1 with
    | none => simp only [q1] at p3; exact p3.elim
    | some d =>
      simp only [q1] at p3
      have h := (r1.mono (g2.trans g3) : ArR e Fo G3 σ H3 ρ3 x a1).co R3 q1
      have g := R3.gh
      cases d with
      | lst xs =>
        obtain ⟨b, ws, rfl, k1, k2⟩ := h.lst g
        refine .inl ⟨b, ws, rfl, SqL.of k1, fun p np => ?_⟩
        have := Gr.new_lst g np (k2.cut l u)
        exact p3.new R3 this.1 this.2
      | scr ns =>
        obtain ⟨b, rfl, k1⟩ := h.scr g
        refine .inl ⟨b, _, rfl, k1, fun p np => ?_⟩
        have := Gr.new_lst g np ((DRs.of_ints ns : DRs e G3 _ _).cut l u)
        exact p3.new R3 this.1 this.2
      | tup xs =>
        obtain ⟨b, ws, ex, k1, k2⟩ := h.tup g
        have dr : DR e G3 x (.tup xs) := h.dr fun _ z => nomatch z
        subst ex
        refine .inr (.inl ⟨b, ws, rfl, k1, fun hw => ?_, fun _ p np => ?_⟩)
        · have p4 : Post e W (fun e Fo G σ H ρ v s => Val e Fo G σ H ρ v s) Fo G3 σ ρ3 (.ok ρ3 (.fz (.tup (cutD xs l u)))) Q := p3
          rw [cut_whole k2 hw] at p4
          exact p4.here R3 (.fz dr)
        · have := Gr.new_tup g np (k2.cut l u)
          exact p3.new R3 this.1 this.2
      | str z =>
        cases h.str
        simp only [slD] at p3
        by_cases c : z.length ≤ sizeLine
        · simp only [if_pos c, retO] at p3
          exact .inr (.inr ⟨z, rfl, c, p3.here R3 (.fz (.str _))⟩)
        · simp only [if_neg c, retO] at p3
          exact p3.elim
      | _ => exact p3.elim
end
end L2.WD
/-! The data layer, part 7: displays, calls of built-ins, methods of lists and texts, stores to a list. -/
namespace L2.WD
open PySem PySem.Spec PyProof.Rows

/-! ### things one behind another -/
def DRsL : RlT (List D) (List V) := fun e _ G _ _ _ vs ds => DRs e G vs ds
abbrev tAD (e : Ev) (W : WX) (f : Mo (List D)) : TA := tG e W DRsL f
def nilD : Mo (List D) := fun ρ => .ok ρ []
def consD (f : Mo D) (g : Mo (List D)) : Mo (List D) := Mo.bind f fun a => Mo.bind g fun as ρ => .ok ρ (a :: as)
/-- an operand that stays -/
def valD (f : Mo Ar) : Mo D := Mo.bind f fun a ρ => match a with
  | .vl d => .ok ρ d
  | .sl i => match ρ[i]? with
    | some (.fz d) => .ok ρ d
    | _ => .bad
def tupX (f : Mo (List D)) : Mo Sl := Mo.bind f fun ds ρ => if ds.length ≤ sizeLine then .ok ρ (.fz (.tup ds)) else .bad
def lstX (f : Mo (List D)) : Mo Sl := Mo.bind f fun ds ρ => if ds.length ≤ sizeLine then .ok ρ (.ow false ds) else .bad
section
variable {X : Cx} {e : Ev} {W : WX} {a b c : Expr} {es : List Expr} {pos : Pos} {fa fb : Mo Ar}
theorem xd_op (h : PE X a (tO e W fa)) : PE X a (tD e W (valD fa)) := h.imp fun σ H Q ⟨Fo, G, ρ, R, p⟩ => by
  refine tG.mono (Post.bind R p) fun v H1 ⟨G1, ρ1, a, g1, R1, r1, p1⟩ => ?_
  cases a with
  | vl d => exact Post.here (Rl := DRl) R1 p1 r1
  | sl i =>
    have hs : σ[i]? = some (some v) := r1
    cases q : ρ1[i]? with
    | none => simp only [q] at p1; exact p1.elim
    | some s =>
      simp only [q] at p1
      cases s with
      | fz d =>
        obtain ⟨o, h1, h2⟩ := R1.get q
        rw [hs] at h1
        cases h1
        cases h2 with
        | fz r => exact Post.here (Rl := DRl) R1 p1 r
        | own r => cases r
      | no => exact p1.elim
      | ow m xs => exact p1.elim
      | oo m c fs => exact p1.elim
theorem xad_nil : PA X [] (tAD e W nilD) := pa_nil.imp fun σ H Q ⟨Fo, G, ρ, R, p⟩ => p.here R .nil
theorem xad_cons {x : Expr} {f : Mo D} {g : Mo (List D)} (h1 : PE X x (tD e W f)) (h2 : PA X es (tAD e W g)) (hs : starEach (x :: es) X.env = (false, eval x X.env) :: starEach es X.env := by rfl) : PA X (x :: es) (tAD e W (consD f g)) :=
  (pa_cons h1 h2 hs).imp fun σ H Q ⟨Fo, G0, ρ, R, p⟩ => by
    refine tG.mono (Post.bind R p) fun x H1 ⟨G1, ρ1, a1, g1, R1, r1, p1⟩ => ?_
    refine tG.mono (Post.bind R1 p1) fun y H2 ⟨G2, ρ2, a2, g2, R2, r2, p2⟩ => ?_
    exact p2.here R2 (.cons (DR.mono g2 r1) r2)
theorem xx_tup {k : Nat} {f : Mo (List D)} (h : PA X es (tAD e W f)) : PE X (.Tuple es k pos) (tX e W (tupX f)) := (pe_tup h).imp fun σ H Q ⟨Fo, G0, ρ, R, p⟩ => by
  refine tG.mono (Post.bind R p) fun xs H1 ⟨G1, ρ1, ds, g1, R1, r1, p1⟩ => ?_
  by_cases c : ds.length ≤ sizeLine
  · simp only [if_pos c] at p1
    refine ⟨by rw [DRs.length r1]; exact c, fun p np => ?_⟩
    have := Gr.new_tup R1.gh np r1
    exact p1.new R1 this.1 this.2
  · simp only [if_neg c] at p1
    exact p1.elim
theorem xx_lst {f : Mo (List D)} (h : PA X es (tAD e W f)) : PE X (.List es pos) (tX e W (lstX f)) := (pe_lst h).imp fun σ H Q ⟨Fo, G0, ρ, R, p⟩ => by
  refine tG.mono (Post.bind R p) fun xs H1 ⟨G1, ρ1, ds, g1, R1, r1, p1⟩ => ?_
  by_cases c : ds.length ≤ sizeLine
  · simp only [if_pos c] at p1
    refine ⟨by rw [DRs.length r1]; exact c, fun p np => ?_⟩
    have := Gr.new_lst R1.gh np r1
    exact p1.new R1 this.1 this.2
  · simp only [if_neg c] at p1
    exact p1.elim

/-! ### calls of built-ins -/
theorem xx_callB {x : Str} {id : String} {r : List V → Hp → VK → Prop} {g : List D → Option Sl} {f : Mo (List Ar)} {p : Pos} (hc : CallR X (.builtin id) r) (hgr : CaG e r g) (hg : Gl X x) (hm : X.mg x = none) (hv : bootBuiltins x = some (.builtin id)) (ha : PA X (a :: es) (tA e W f))
    (hn : x ≠ "__name__" := by decide) (hd : (x == ("__debug__" : Str)) = false := by decide) (hs : starEach (a :: es) X.env = (false, eval a X.env) :: starEach es X.env := by rfl) (hpl : (backTo pos (starEach es X.env)).any (·.1) = false := by rfl) : PE X (.Call (.Name x p) (a :: es) [] pos) (tX e W (caX g f)) :=
  (pe_callB hc hg hm hv ha hn hd hs hpl).imp fun _ _ _ h => ca_core hgr h
theorem xx_callTy {x : Str} {T : String} {r : List V → Hp → VK → Prop} {g : List D → Option Sl} {f : Mo (List Ar)} {p : Pos} (hc : CallR X (.type T) r) (hgr : CaG e r g) (hg : Gl X x) (hm : X.mg x = none) (hv : bootBuiltins x = some (.type T)) (ha : PA X (a :: es) (tA e W f))
    (hn : x ≠ "__name__" := by decide) (hd : (x == ("__debug__" : Str)) = false := by decide) (hs : starEach (a :: es) X.env = (false, eval a X.env) :: starEach es X.env := by rfl) (hpl : (backTo pos (starEach es X.env)).any (·.1) = false := by rfl) : PE X (.Call (.Name x p) (a :: es) [] pos) (tX e W (caX g f)) :=
  (pe_callTy hc hg hm hv ha hn hd hs hpl).imp fun _ _ _ h => ca_core hgr h
end
section
variable {X : Cx} {e : Ev}
theorem CoRs.one {G H : Hp} {xs : List V} {d : D} (h : CoRs e G H xs [d]) : ∃ v, xs = [v] ∧ CoR e G H v d := by
  cases h with
  | cons a b =>
    cases b
    exact ⟨_, rfl, a⟩
theorem CoRs.two {G H : Hp} {xs : List V} {d d2 : D} (h : CoRs e G H xs [d, d2]) : ∃ v w, xs = [v, w] ∧ CoR e G H v d ∧ CoR e G H w d2 := by
  cases h with
  | cons a b =>
    obtain ⟨w, rfl, b'⟩ := b.one
    exact ⟨_, _, rfl, a, b'⟩
/-- a function of one thing -/
def one (f : D → Option Sl) : List D → Option Sl
  | [d] => f d
  | _ => none
def two (f : D → D → Option Sl) : List D → Option Sl
  | [d, d2] => f d d2
  | _ => none
theorem ca_one {r : List V → Hp → VK → Prop} {f : D → Option Sl} (h : ∀ (G H : Hp) (v : V) (d : D) (s : Sl) (Q : VK), L2.Same G H → CoR e G H v d → f d = some s → (∀ G' H' v, Gr G H G' H' → New e H G' H' v s → Q v H') → r [v] H Q) : CaG e r (one f) := by
  intro G H xs ds s Q g hx hs q
  cases hx with
  | nil => cases hs
  | cons a b =>
    cases b with
    | nil => exact h G H _ _ s Q g a hs q
    | cons _ _ => cases hs
theorem ca_two {r : List V → Hp → VK → Prop} {f : D → D → Option Sl} (h : ∀ (G H : Hp) (v w : V) (d d2 : D) (s : Sl) (Q : VK), L2.Same G H → CoR e G H v d → CoR e G H w d2 → f d d2 = some s → (∀ G' H' v, Gr G H G' H' → New e H G' H' v s → Q v H') → r [v, w] H Q) : CaG e r (two f) := by
  intro G H xs ds s Q g hx hs q
  cases hx with
  | nil => cases hs
  | cons a b =>
    cases b with
    | nil => cases hs
    | cons a2 b2 =>
      cases b2 with
      | nil => exact h G H _ _ _ _ s Q g a a2 hs q
      | cons _ _ => cases hs
def intS (i : Int) : Option Sl := some (.fz (.int i))
/-- len -/
def lenD : D → Option Sl
  | .lst xs => intS xs.length
  | .tup xs => intS xs.length
  | .scr xs => intS xs.length
  | .str s => if s.length ≤ sizeLine then intS s.length else none
  | _ => none
def rLenU (K : PySem.W.Frag) : List V → Hp → VK → Prop := fun xs H Q => ∃ x n, xs = [x] ∧ LenV K x H n ∧ Q (.int n) H
theorem call_lenU (C : X.K = e.K) : CallR X (.builtin "len") (rLenU e.K) := by rw [← C]; exact call_len
theorem cg_len : CaG e (rLenU e.K) (one lenD) := ca_one fun G H v d s Q g h hs q => by
  cases d with
  | lst xs =>
    obtain ⟨b, ws, rfl, k1, k2⟩ := h.lst g
    cases hs
    exact ⟨_, xs.length, rfl, .inl ⟨ws, SqL.of k1, k2.length.symm⟩, q G H _ (Gr.refl g) (.int _)⟩
  | tup xs =>
    obtain ⟨b, ws, rfl, k1, k2⟩ := h.tup g
    cases hs
    exact ⟨_, xs.length, rfl, .inr ⟨ws, k1, k2.length.symm⟩, q G H _ (Gr.refl g) (.int _)⟩
  | scr xs =>
    obtain ⟨b, rfl, k1⟩ := h.scr g
    cases hs
    exact ⟨_, xs.length, rfl, .inl ⟨_, k1, by simp⟩, q G H _ (Gr.refl g) (.int _)⟩
  | str z =>
    cases h.str
    simp only [lenD] at hs
    by_cases c : z.length ≤ sizeLine
    · rw [if_pos c] at hs
      cases hs
      exact ⟨_, z.length, rfl, ⟨c, rfl⟩, q G H _ (Gr.refl g) (.int _)⟩
    · rw [if_neg c] at hs
      cases hs
  | _ => cases hs
/-- lists of whole numbers, of truths, of texts -/
def intsD : List D → Option (List Int)
  | [] => some []
  | .int i :: ds => (intsD ds).map (i :: ·)
  | _ :: _ => none
theorem intsD_eq : ∀ {ds : List D} {ns : List Int}, intsD ds = some ns → ds = ns.map D.int
  | [], _, h => by cases h; rfl
  | d :: ds, ns, h => by
    cases d with
    | int i =>
      obtain ⟨ms, h1, h2⟩ := Option.map_eq_some_iff.mp (show (intsD ds).map (i :: ·) = some ns from h)
      rw [← h2, intsD_eq h1]
      rfl
    | _ => cases h
theorem intsD_map : ∀ ns : List Int, intsD (ns.map D.int) = some ns
  | [] => rfl
  | n :: ns => by show (intsD (ns.map D.int)).map (n :: ·) = _; rw [intsD_map ns]; rfl
def blsD : List D → Option (List Bool)
  | [] => some []
  | .bl i :: ds => (blsD ds).map (i :: ·)
  | _ :: _ => none
theorem blsD_eq : ∀ {ds : List D} {ns : List Bool}, blsD ds = some ns → ds = ns.map D.bl
  | [], _, h => by cases h; rfl
  | d :: ds, ns, h => by
    cases d with
    | bl i =>
      obtain ⟨ms, h1, h2⟩ := Option.map_eq_some_iff.mp (show (blsD ds).map (i :: ·) = some ns from h)
      rw [← h2, blsD_eq h1]
      rfl
    | _ => cases h
theorem blsD_map : ∀ ns : List Bool, blsD (ns.map D.bl) = some ns
  | [] => rfl
  | n :: ns => by show (blsD (ns.map D.bl)).map (n :: ·) = _; rw [blsD_map ns]; rfl
def strsD : List D → Option (List Str)
  | [] => some []
  | .str i :: ds => (strsD ds).map (i :: ·)
  | _ :: _ => none
theorem strsD_eq : ∀ {ds : List D} {ns : List Str}, strsD ds = some ns → ds = ns.map D.str
  | [], _, h => by cases h; rfl
  | d :: ds, ns, h => by
    cases d with
    | str i =>
      obtain ⟨ms, h1, h2⟩ := Option.map_eq_some_iff.mp (show (strsD ds).map (i :: ·) = some ns from h)
      rw [← h2, strsD_eq h1]
      rfl
    | _ => cases h
theorem strsD_map : ∀ ns : List Str, strsD (ns.map D.str) = some ns
  | [] => rfl
  | n :: ns => by show (strsD (ns.map D.str)).map (n :: ·) = _; rw [strsD_map ns]; rfl
/-- sum, all, any -/
def sumD : D → Option Sl
  | .lst xs => (intsD xs).bind fun ns => intS ns.sum
  | .scr ns => intS ns.sum
  | _ => none
theorem call_sumU (C : X.K = e.K) (hc : X.calm = true) : CallR X (.builtin "sum") (rSum e.K) := by rw [← C]; exact cr_sum hc
theorem cg_sum : CaG e (rSum e.K) (one sumD) := ca_one fun G H v d s Q g h hs q => by
  cases d with
  | lst xs =>
    obtain ⟨b, ws, rfl, k1, k2⟩ := h.lst g
    obtain ⟨ns, h1, h2⟩ := Option.bind_eq_some_iff.mp (show (intsD xs).bind (fun ns => intS ns.sum) = some s from hs)
    cases h2
    rw [intsD_eq h1] at k2
    rw [k2.ints] at k1
    exact ⟨b, ns, rfl, SqL.of k1, q G H _ (Gr.refl g) (.int _)⟩
  | scr ns =>
    obtain ⟨b, rfl, k1⟩ := h.scr g
    cases hs
    exact ⟨b, ns, rfl, k1, q G H _ (Gr.refl g) (.int _)⟩
  | _ => cases hs
def allD (f : List Bool → Bool) : D → Option Sl
  | .lst xs => (blsD xs).bind fun ns => blS (f ns)
  | _ => none
theorem call_allU (C : X.K = e.K) (hc : X.calm = true) : CallR X (.builtin "all") (rAll e.K) := by rw [← C]; exact cr_all hc
theorem call_anyU (C : X.K = e.K) (hc : X.calm = true) : CallR X (.builtin "any") (rAny e.K) := by rw [← C]; exact cr_any hc
theorem cg_all : CaG e (rAll e.K) (one (allD fun bs => bs.all id)) := ca_one fun G H v d s Q g h hs q => by
  cases d with
  | lst xs =>
    obtain ⟨b, ws, rfl, k1, k2⟩ := h.lst g
    obtain ⟨ns, h1, h2⟩ := Option.bind_eq_some_iff.mp (show (blsD xs).bind (fun ns => blS (ns.all id)) = some s from hs)
    cases h2
    rw [blsD_eq h1] at k2
    rw [k2.bls] at k1
    exact ⟨b, ns, rfl, SqL.of k1, q G H _ (Gr.refl g) (.bl _)⟩
  | _ => cases hs
theorem cg_any : CaG e (rAny e.K) (one (allD fun bs => bs.any id)) := ca_one fun G H v d s Q g h hs q => by
  cases d with
  | lst xs =>
    obtain ⟨b, ws, rfl, k1, k2⟩ := h.lst g
    obtain ⟨ns, h1, h2⟩ := Option.bind_eq_some_iff.mp (show (blsD xs).bind (fun ns => blS (ns.any id)) = some s from hs)
    cases h2
    rw [blsD_eq h1] at k2
    rw [k2.bls] at k1
    exact ⟨b, ns, rfl, SqL.of k1, q G H _ (Gr.refl g) (.bl _)⟩
  | _ => cases hs
/-- abs, max, min, int, str of a number, divmod -/
def absD : D → Option Sl
  | .int i => intS (if i < 0 then -i else i)
  | _ => none
theorem cg_abs : CaG e (fun xs H Q => ∃ i, xs = [.int i] ∧ Q (.int (if i < 0 then -i else i)) H) (one absD) := ca_one fun G H v d s Q g h hs q => by
  cases d with
  | int i =>
    cases h.int
    cases hs
    exact ⟨i, rfl, q G H _ (Gr.refl g) (.int _)⟩
  | _ => cases hs
def int2D (f : Int → Int → Int) : D → D → Option Sl
  | .int i, .int j => intS (f i j)
  | _, _ => none
theorem cg_int2 {f : Int → Int → Int} : CaG e (fun xs H Q => ∃ i j, xs = [.int i, .int j] ∧ Q (.int (f i j)) H) (two (int2D f)) := ca_two fun G H v w d d2 s Q g h h2 hs q => by
  cases d with
  | int i =>
    cases d2 with
    | int j =>
      cases h.int
      cases h2.int
      cases hs
      exact ⟨i, j, rfl, q G H _ (Gr.refl g) (.int _)⟩
    | _ => cases hs
  | _ => cases d2 <;> cases hs
def maxD : D → D → Option Sl := int2D fun i j => if j > i then j else i
def minD : D → D → Option Sl := int2D fun i j => if j < i then j else i
def int1D : D → Option Sl
  | .int i => intS i
  | .bl k => intS (if k then 1 else 0)
  | _ => none
theorem cg_int1 : CaG e (fun xs H Q => (∃ i, xs = [.int i] ∧ Q (.int i) H) ∨ ∃ k, xs = [.bl k] ∧ Q (.int (if k then 1 else 0)) H) (one int1D) := ca_one fun G H v d s Q g h hs q => by
  cases d with
  | int i =>
    cases h.int
    cases hs
    exact .inl ⟨i, rfl, q G H _ (Gr.refl g) (.int _)⟩
  | bl k =>
    cases h.bl
    cases hs
    exact .inr ⟨k, rfl, q G H _ (Gr.refl g) (.int _)⟩
  | _ => cases hs
def strID : D → Option Sl
  | .int i => if i.natAbs.log2 < 1920 then some (.fz (.str (toString i))) else none
  | _ => none
theorem cg_strI : CaG e (fun xs H Q => ∃ i, xs = [.int i] ∧ i.natAbs.log2 < 1920 ∧ Q (.str (toString i)) H) (one strID) := ca_one fun G H v d s Q g h hs q => by
  cases d with
  | int i =>
    cases h.int
    simp only [strID] at hs
    by_cases c : i.natAbs.log2 < 1920
    · rw [if_pos c] at hs
      cases hs
      exact ⟨i, rfl, c, q G H _ (Gr.refl g) (.str _)⟩
    · rw [if_neg c] at hs
      cases hs
  | _ => cases hs
def divmodD : D → D → Option Sl
  | .int i, .int j => if 0 < j ∧ j < 1073741824 then some (.fz (.tup [.int (i / j), .int (i % j)])) else none
  | _, _ => none
theorem cg_divmod : CaG e (fun xs H Q => ∃ i j, xs = [.int i, .int j] ∧ CDiv i j ∧ ∀ p, H p = none → Q (.ref p) (upd H p (.tup [.int (i / j), .int (i % j)]))) (two divmodD) := ca_two fun G H v w d d2 s Q g h h2 hs q => by
  cases d with
  | int i =>
    cases d2 with
    | int j =>
      cases h.int
      cases h2.int
      simp only [divmodD] at hs
      by_cases c : 0 < j ∧ j < 1073741824
      · rw [if_pos c] at hs
        cases hs
        refine ⟨i, j, rfl, c, fun p np => ?_⟩
        have := Gr.new_tup (e := e) g np (.cons (.int (i / j)) (.cons (.int (i % j)) .nil))
        exact q _ _ _ this.1 this.2
      · rw [if_neg c] at hs
        cases hs
    | _ => cases hs
  | _ => cases d2 <;> cases hs
/-- list(..), tuple(..) -/
def listD : D → Option Sl
  | .lst xs => some (.ow false xs)
  | .tup xs => some (.ow false xs)
  | .scr ns => some (.ow false (ns.map D.int))
  | _ => none
def rListOf (K : PySem.W.Frag) : List V → Hp → VK → Prop := fun xs H Q => ∃ p ys, xs = [.ref p] ∧ (SqL K H p ys ∨ SqT K H p ys) ∧ ∀ l, H l = none → Q (.ref l) (upd H l (.lst ys))
theorem call_listU (C : X.K = e.K) : CallR X (.type "list") (rListOf e.K) := by rw [← C]; exact call_list_of
theorem cg_list : CaG e (rListOf e.K) (one listD) := ca_one fun G H v d s Q g h hs q => by
  cases d with
  | lst xs =>
    obtain ⟨b, ws, rfl, k1, k2⟩ := h.lst g
    cases hs
    refine ⟨b, ws, rfl, .inl (SqL.of k1), fun l hl => ?_⟩
    have := Gr.new_lst g hl k2
    exact q _ _ _ this.1 this.2
  | tup xs =>
    obtain ⟨b, ws, rfl, k1, k2⟩ := h.tup g
    cases hs
    refine ⟨b, ws, rfl, .inr k1, fun l hl => ?_⟩
    have := Gr.new_lst g hl k2
    exact q _ _ _ this.1 this.2
  | scr ns =>
    obtain ⟨b, rfl, k1⟩ := h.scr g
    cases hs
    refine ⟨b, _, rfl, .inl k1, fun l hl => ?_⟩
    have := Gr.new_lst (e := e) g hl (DRs.of_ints ns)
    exact q _ _ _ this.1 this.2
  | _ => cases hs
def tupleD : D → Option Sl
  | .lst xs => some (.fz (.tup xs))
  | .tup xs => some (.fz (.tup xs))
  | .scr ns => some (.fz (.tup (ns.map D.int)))
  | _ => none
def rTupOf (K : PySem.W.Frag) : List V → Hp → VK → Prop := fun xs H Q => ∃ p ys, xs = [.ref p] ∧ ((SqL K H p ys ∧ ∀ l, H l = none → Q (.ref l) (upd H l (.tup ys))) ∨ (SqT K H p ys ∧ Q (.ref p) H))
theorem call_tupU (C : X.K = e.K) : CallR X (.type "tuple") (rTupOf e.K) := by rw [← C]; exact call_tuple_of
theorem cg_tuple : CaG e (rTupOf e.K) (one tupleD) := ca_one fun G H v d s Q g h hs q => by
  cases d with
  | lst xs =>
    obtain ⟨b, ws, rfl, k1, k2⟩ := h.lst g
    cases hs
    refine ⟨b, ws, rfl, .inl ⟨SqL.of k1, fun l hl => ?_⟩⟩
    have := Gr.new_tup g hl k2
    exact q _ _ _ this.1 this.2
  | tup xs =>
    have dr : DR e G v (.tup xs) := h.dr fun _ z => nomatch z
    obtain ⟨b, ws, rfl, k1, k2⟩ := h.tup g
    cases hs
    exact ⟨b, ws, rfl, .inr ⟨k1, q G H _ (Gr.refl g) dr⟩⟩
  | scr ns =>
    obtain ⟨b, rfl, k1⟩ := h.scr g
    cases hs
    refine ⟨b, _, rfl, .inl ⟨k1, fun l hl => ?_⟩⟩
    have := Gr.new_tup (e := e) g hl (DRs.of_ints ns)
    exact q _ _ _ this.1 this.2
  | _ => cases hs
end

/-! ### range, as what is walked -/
section
variable {X : Cx} {e : Ev} {W : WX} {tg a b : Expr} {pos p : Pos} {fa fb : Mo Ar}
def rngD (lo hi : Int) : List D := (List.range (hi - lo).toNat).map fun (i : Nat) => .int (lo + i)
theorem wk_rng {Fo G H : Hp} {σ : St} {ρ : List Sl} {lo hi : Int} : Wk e Fo G σ H ρ (Itr lo (hi - lo).toNat) (rngD lo hi) := by
  refine ⟨YFn fun i => .int (lo + i), ?_, fun i H x H' G1 g h1 hi' y => ?_⟩
  · unfold rngD
    rw [List.length_map, List.length_range]
    exact walk_range.mono (fun _ _ => trivial) fun i H x H' _ _ y => y
  · obtain ⟨rfl, y2⟩ := y
    unfold rngD at hi'
    rw [List.length_map, List.length_range] at hi'
    refine ⟨G1, .int (lo + i), ?_, Gr.refl h1, ?_⟩
    · unfold rngD
      rw [List.getElem?_map, List.getElem?_range hi']
      rfl
    · rw [y2]
      exact .int _
def rg1 (f : Mo Ar) : Mo (List D) := Mo.bind f fun a ρ => match con ρ a with
  | some (.int j) => if -(2 ^ 62) ≤ j ∧ j < 2 ^ 62 then .ok ρ (rngD 0 j) else .bad
  | _ => .bad
def rg2 (f g : Mo Ar) : Mo (List D) := Mo.bind f fun a => Mo.bind g fun b ρ => match con ρ a, con ρ b with
  | some (.int i), some (.int j) => if -(2 ^ 62) ≤ i ∧ i < 2 ^ 62 ∧ -(2 ^ 62) ≤ j ∧ j < 2 ^ 62 then .ok ρ (rngD i j) else .bad
  | _, _ => .bad
theorem xi_rg1 (hg : Gl X "range") (hm : X.mg "range" = none) (ha : PE X a (tO e W fa)) (hs : starEach [a] X.env = [(false, eval a X.env)] := by rfl) : PI X tg (.Call (.Name "range" p) [a] [] pos) (tI e W (rg1 fa)) :=
  (pi_range1 hg hm (pa_cons ha pa_nil hs) hs).imp fun σ H Q ⟨Fo, G, ρ, R, p⟩ => by
    refine tG.mono (Post.bind R p) fun v H1 ⟨G1, ρ1, a, g1, R1, r1, p1⟩ => ?_
    cases q1 : con ρ1 a with
    | none => simp only [q1] at p1; exact p1.elim
    | some d =>
      simp only [q1] at p1
      cases d with
      | int j =>
        simp only at p1
        by_cases c : -(2 ^ 62) ≤ j ∧ j < 2 ^ 62
        · rw [if_pos c] at p1
          refine ⟨j, by rw [(r1.co R1 q1).int], c.1, c.2, p1.here R1 ?_⟩
          have := wk_rng (e := e) (Fo := Fo) (G := G1) (H := H1) (σ := σ) (ρ := ρ1) (lo := 0) (hi := j)
          rw [Int.sub_zero] at this
          exact this
        · rw [if_neg c] at p1
          exact p1.elim
      | _ => exact p1.elim
theorem xi_rg2 (hg : Gl X "range") (hm : X.mg "range" = none) (ha : PE X a (tO e W fa)) (hb : PE X b (tO e W fb)) (hs : starEach [a, b] X.env = (false, eval a X.env) :: starEach [b] X.env := by rfl) (hs2 : starEach [b] X.env = [(false, eval b X.env)] := by rfl) (hs3 : starEach [a, b] X.env = [(false, eval a X.env), (false, eval b X.env)] := by rfl) : PI X tg (.Call (.Name "range" p) [a, b] [] pos) (tI e W (rg2 fa fb)) :=
  (pi_range2 hg hm (pa_cons ha (pa_cons hb pa_nil hs2) hs) hs3 hs2).imp fun σ H Q ⟨Fo, G, ρ, R, p⟩ => by
    refine tG.mono (Post.bind R p) fun v H1 ⟨G1, ρ1, a, g1, R1, r1, p1⟩ => ?_
    refine tG.mono (Post.bind R1 p1) fun w H2 ⟨G2, ρ2, b, g2, R2, r2, p2⟩ => ?_
    have r1' := (r1.mono g2 : ArR e Fo G2 σ H2 ρ2 v a)
    cases q1 : con ρ2 a with
    | none => simp only [q1] at p2; exact p2.elim
    | some d =>
      cases q2 : con ρ2 b with
      | none => simp only [q1, q2] at p2; exact p2.elim
      | some d2 =>
        simp only [q1, q2] at p2
        cases d with
        | int i =>
          cases d2 with
          | int j =>
            simp only at p2
            by_cases c : -(2 ^ 62) ≤ i ∧ i < 2 ^ 62 ∧ -(2 ^ 62) ≤ j ∧ j < 2 ^ 62
            · rw [if_pos c] at p2
              exact ⟨i, j, by rw [(r1'.co R2 q1).int, (r2.co R2 q2).int], c, p2.here R2 wk_rng⟩
            · rw [if_neg c] at p2
              exact p2.elim
          | _ => exact p2.elim
        | _ => cases d2 <;> exact p2.elim
end

/-! ### methods that change a list of one's own -/
section
variable {X : Cx} {e : Ev} {W : WX} {Fo G H : Hp} {σ : St} {ρ : List Sl}
theorem Rel.upd_own {i : Nat} {b : Addr} {m : Bool} {xs ys : List D} {ws' : List V} (R : Rel e Fo G σ H ρ) (h : ρ[i]? = some (.ow m xs)) (hv : σ[i]? = some (some (.ref b))) (r : DRs e G ws' ys) : Rel e Fo G σ (upd H b (.lst ws')) (ρ.set i (.ow m ys)) := by
  obtain ⟨o, h1, h2⟩ := R.get h
  rw [hv] at h1
  cases h1
  cases h2 with
  | own q =>
    cases q with
    | @ow _ vs _ k1 k2 k3 k4 =>
      have il : i < ρ.length := by
        by_cases z : i < ρ.length
        · exact z
        · rw [List.getElem?_eq_none (by omega)] at h
          cases h
      refine ⟨fun c o z => ?_, fun c o z => ?_, R.fg, .of_get (by rw [List.length_set, R.len]) fun j o s j1 j2 => ?_, fun j k c s t j1 j2 o1 o2 e1 e2 => ?_⟩
      · rw [upd_ne (ne_of_none z k3)]
        exact R.gh _ _ z
      · rw [upd_ne (ne_of_none z k4)]
        exact R.fh _ _ z
      · by_cases hj : j = i
        · subst hj
          rw [List.getElem?_set_self il] at j2
          cases j2
          rw [hv] at j1
          cases j1
          exact .own (.ow upd_same r k3 k4)
        · rw [List.getElem?_set_ne (Ne.symm hj)] at j2
          obtain ⟨o', e1, q⟩ := R.get j2
          rw [j1] at e1
          cases e1
          cases q with
          | no => exact .no
          | fz r => exact .fz r
          | @own b' _ q =>
            have ho := q.at.2.2.2
            have nb : b' ≠ b := fun z => hj (R.ap j i b' s (.ow m xs) j2 h ho rfl j1 (by rw [z]; exact hv))
            cases q with
            | ow l1 l2 l3 l4 => exact .own (.ow (by rw [upd_ne nb]; exact l1) l2 l3 l4)
            | @oo _ _ dx _ _ l1 l2 l3 l4 l5 l6 l7 => exact .own (.oo (by rw [upd_ne nb]; exact l1) (by rw [upd_ne (fun z => by rw [z, k1] at l2; cases l2)]; exact l2) l3 l4 l5 l6 l7)
      · have own_of : ∀ {n : Nat} {u : Sl}, (ρ.set i (.ow m ys))[n]? = some u → u.owned = true → ∃ u', ρ[n]? = some u' ∧ u'.owned = true := fun {n u} hn ho => by
          by_cases hni : n = i
          · subst hni
            exact ⟨_, h, rfl⟩
          · rw [List.getElem?_set_ne (Ne.symm hni)] at hn
            exact ⟨u, hn, ho⟩
        obtain ⟨s', m1, m2⟩ := own_of j1 o1
        obtain ⟨t', m3, m4⟩ := own_of j2 o2
        exact R.ap j k c s' t' m1 m3 m2 m4 e1 e2
theorem keep_ow {i : Nat} {m : Bool} {xs ys : List D} (h : ρ[i]? = some (.ow m xs)) : Keep ρ (ρ.set i (.ow m ys)) := fun j s hs hm => by
  by_cases hj : j = i
  · subst hj
    have il : j < ρ.length := by
      by_cases z : j < ρ.length
      · exact z
      · rw [List.getElem?_eq_none (by omega)] at h
        cases h
    rw [h] at hs
    cases hs
    exact ⟨_, List.getElem?_set_self il, hm⟩
  · rw [List.getElem?_set_ne (Ne.symm hj)]
    exact ⟨s, hs, hm⟩
/-- what a list is behind it, and what it hands back -/
def MuG (e : Ev) (r : V → List V → Hp → VK → Prop) (g : List D → List D → Option (List D × D)) : Prop := ∀ (G H : Hp) (b : Addr) (ws vs : List V) (xs ds ys : List D) (d : D) (Q : VK), L2.Same G H → H b = some (.lst ws) → DRs e G ws xs → DRs e G vs ds → g xs ds = some (ys, d) →
  (∀ ws' v, DRs e G ws' ys → DR e G v d → Q v (upd H b (.lst ws'))) → r (.ref b) vs H Q
def muX (i : Nat) (g : List D → List D → Option (List D × D)) (f : Mo (List D)) : Mo Sl := Mo.bind f fun ds ρ => match ρ[i]? with
  | some (.ow m xs) => (match g xs ds with
    | some (ys, d) => .ok (ρ.set i (.ow m ys)) (.fz d)
    | none => .bad)
  | _ => .bad
theorem mu_core {r : V → List V → Hp → VK → Prop} {g : List D → List D → Option (List D × D)} {i : Nat} (mg : MuG e r g) {ds : List D} {vs : List V} {v : V} {Q : VK} (R : Rel e Fo G σ H ρ) (hv : σ[i]? = some (some v)) (rd : DRs e G vs ds)
    (p : Post e W (fun e Fo G σ H ρ v s => Val e Fo G σ H ρ v s) Fo G σ ρ (match ρ[i]? with
      | some (.ow m xs) => (match g xs ds with
        | some (ys, d) => .ok (ρ.set i (.ow m ys)) (.fz d)
        | none => .bad)
      | _ => .bad) Q) : r v vs H Q := by
  cases q : ρ[i]? with
  | none => rw [q] at p; exact p.elim
  | some s =>
    rw [q] at p
    obtain ⟨o, h1, h2⟩ := R.get q
    rw [hv] at h1
    cases h1
    cases s with
    | ow m xs =>
      cases h2 with
      | own k =>
        cases k with
        | @ow _ ws _ k1 k2 k3 k4 =>
          cases q2 : g xs ds with
          | none => simp only [q2] at p; exact p.elim
          | some yd =>
            obtain ⟨ys, d⟩ := yd
            simp only [q2] at p
            exact mg G H _ ws vs xs ds ys d Q R.gh k1 k2 rd q2 fun ws' v' r1 r2 => p G _ v' (L2.Same.refl _) (keep_ow q) (R.upd_own q hv r1) (.fz r2)
    | _ => exact p.elim
theorem ty_lst {K : PySem.W.Frag} {i : Nat} {v : V} {m : Bool} {xs : List D} (R : Rel e Fo G σ H ρ) (h : ρ[i]? = some (.ow m xs)) (hv : σ[i]? = some (some v)) : tyV K "list" v H := by
  obtain ⟨o, h1, h2⟩ := R.get h
  rw [hv] at h1
  cases h1
  cases h2 with
  | own k =>
    cases k with
    | ow k1 k2 k3 k4 => exact .inl ⟨rfl, _, SqL.of k1⟩
/-- x.m(e, ..), x a name whose own list it changes -/
def muN (i : Nat) (f : Mo Sl) : Mo Sl := fun ρ => match ρ[i]? with
  | some (.ow _ _) => f ρ
  | _ => .bad
theorem xx_mu {x a : Expr} {es : List Expr} {i : Nat} {name : Str} {id : String} {r : V → List V → Hp → VK → Prop} {g : List D → List D → Option (List D × D)} {f : Mo (List D)} {apos cpos : Pos} (slot : Slot "list" name id) (hty : typeOf (.builtin id) = pure (.type "method_descriptor")) (hm : MtR X id r) (mg : MuG e r g)
    (hx : PE X x (tVar i)) (ha : PA X (a :: es) (tAD e W f)) (hbase : attributeBase x name X.env (eval x X.env) = eval x X.env := by rfl)
    (hfew : ((backTo cpos (starEach (a :: es) X.env)).all (fun x => !x.1) && (backToKw cpos (keywordEach [] X.env)).all (fun x => x.1.isSome)
      && decide ((a :: es).length + ([] : List Keyword).length + (if ([] : List Keyword).isEmpty then 0 else 1) < 30)) = true := by rfl)
    (hline : (apos.endLine == cpos.line) = true := by rfl) (hs : starEach (a :: es) X.env = (false, eval a X.env) :: starEach es X.env := by rfl) (hplain : (backTo cpos (starEach es X.env)).any (·.1) = false := by rfl) :
    PE X (.Call (.Attribute x name apos) (a :: es) [] cpos) (tX e W (muN i (muX i g f))) := (pe_bm PySem.F.plainAttrs_list slot hty hm hx ha hbase hfew hline hs hplain).imp fun σ H Q ⟨Fo, G, ρ, R, p⟩ => by
  unfold muN at p
  cases q : ρ[i]? with
  | none => rw [q] at p; exact p.elim
  | some s =>
    rw [q] at p
    cases s with
    | ow m xs =>
      obtain ⟨o, h1, h2⟩ := R.get q
      have h2' := h2
      cases h2 with
      | own k =>
        refine ⟨_, h1, ty_lst R q h1, ?_⟩
        refine tG.mono (Post.bind R p) fun vs H1 ⟨G1, ρ1, ds, g1, R1, r1, p1⟩ => ?_
        exact mu_core mg R1 h1 r1 p1
    | _ => exact p.elim
theorem xx_mu0 {x : Expr} {i : Nat} {name : Str} {id : String} {r : V → List V → Hp → VK → Prop} {g : List D → List D → Option (List D × D)} {apos cpos : Pos} (slot : Slot "list" name id) (hty : typeOf (.builtin id) = pure (.type "method_descriptor")) (hm : MtR X id r) (mg : MuG e r g)
    (hx : PE X x (tVar i)) (hbase : attributeBase x name X.env (eval x X.env) = eval x X.env := by rfl) (hline : (apos.endLine == cpos.line) = true := by rfl) :
    PE X (.Call (.Attribute x name apos) [] [] cpos) (tX e W (muN i (muX i g nilD))) := (pe_bm0 PySem.F.plainAttrs_list slot hty hm hx hbase hline).imp fun σ H Q ⟨Fo, G, ρ, R, p⟩ => by
  unfold muN at p
  cases q : ρ[i]? with
  | none => rw [q] at p; exact p.elim
  | some s =>
    rw [q] at p
    cases s with
    | ow m xs =>
      obtain ⟨o, h1, h2⟩ := R.get q
      cases h2 with
      | own k =>
        refine ⟨_, h1, ty_lst R q h1, ?_⟩
        exact mu_core mg R h1 (DRs.nil) p
    | _ => exact p.elim
def appendG : List D → List D → Option (List D × D)
  | xs, [d] => if xs.length < sizeLine then some (xs ++ [d], .non) else none
  | _, _ => none
theorem mg_append : MuG e rAppend appendG := by
  intro G H b ws vs xs ds ys d Q g h1 h2 h3 hg q
  cases h3 with
  | nil => cases hg
  | cons a r =>
    cases r with
    | cons _ _ => cases hg
    | nil =>
      simp only [appendG] at hg
      by_cases c : xs.length < sizeLine
      · rw [if_pos c] at hg
        cases hg
        exact ⟨b, ws, _, rfl, rfl, h1, by rw [h2.length]; exact c, q _ _ (h2.append (.cons a .nil)) .non⟩
      · rw [if_neg c] at hg
        cases hg
def extendG : List D → List D → Option (List D × D)
  | xs, [.lst ds] => if xs.length + ds.length ≤ sizeLine then some (xs ++ ds, .non) else none
  | _, _ => none
theorem mg_extend : MuG e rExtend extendG := by
  intro G H b ws vs xs ds ys d Q g h1 h2 h3 hg q
  cases h3 with
  | nil => cases hg
  | cons a r =>
    cases r with
    | cons _ _ => simp [extendG] at hg
    | nil =>
      cases a with
      | lst a1 a2 =>
        simp only [extendG] at hg
        split at hg
        · rename_i c
          cases hg
          exact ⟨b, _, ws, _, rfl, rfl, h1, g _ _ a1, by rw [h2.length, a2.length]; exact c, q _ _ (h2.append a2) .non⟩
        · cases hg
      | _ => cases hg
def popG : List D → List D → Option (List D × D)
  | xs, [] => (xs[xs.length - 1]?).map fun d => (xs.dropLast, d)
  | _, _ => none
theorem DRs.dropLast {vs : List V} {ds : List D} (h : DRs e G vs ds) : DRs e G vs.dropLast ds.dropLast := by
  rw [List.dropLast_eq_take, List.dropLast_eq_take, h.length]
  exact h.take _
theorem mg_pop : MuG e rPop popG := by
  intro G H b ws vs xs ds ys d Q g h1 h2 h3 hg q
  cases h3 with
  | cons _ _ => cases hg
  | nil =>
    obtain ⟨d', k1, k2⟩ := Option.map_eq_some_iff.mp (show (xs[xs.length - 1]?).map (fun d => (xs.dropLast, d)) = some (ys, d) from hg)
    cases k2
    obtain ⟨v, k3, k4⟩ := h2.get k1
    exact ⟨b, ws, v, rfl, rfl, h1, by rw [h2.length]; exact k3, q _ _ h2.dropLast k4⟩

/-! ### methods that look -/
def MtG (e : Ev) (r : V → List V → Hp → VK → Prop) (T : String) (g : D → List D → Option Sl) : Prop := ∀ (G H : Hp) (v : V) (vs : List V) (d : D) (ds : List D) (s : Sl) (Q : VK), L2.Same G H → CoR e G H v d → CoRs e G H vs ds → g d ds = some s →
  (∀ G' H' v, Gr G H G' H' → New e H G' H' v s → Q v H') → r v vs H Q
/-- of which kind it is -/
def kindIs (T : String) (d : D) : Bool := match d with
  | .str _ => T == "str"
  | .lst _ => T == "list"
  | .scr _ => T == "list"
  | _ => false
theorem kind_ty {K : PySem.W.Frag} (hK : K = e.K) {T : String} {v : V} {d : D} (g : L2.Same G H) (h : CoR e G H v d) (k : kindIs T d = true) : tyV K T v H := by
  subst hK
  cases d with
  | str s =>
    cases h.str
    exact beq_iff_eq.mp k
  | lst xs =>
    obtain ⟨b, ws, rfl, k1, k2⟩ := h.lst g
    exact .inl ⟨beq_iff_eq.mp k, _, SqL.of k1⟩
  | scr xs =>
    obtain ⟨b, rfl, k1⟩ := h.scr g
    exact .inl ⟨beq_iff_eq.mp k, _, k1⟩
  | _ => cases k
def mtX (T : String) (g : D → List D → Option Sl) (fo : Mo Ar) (fa : Mo (List Ar)) : Mo Sl := Mo.bind fo fun o ρ => match con ρ o with
  | some d => if kindIs T d = true then Mo.bind fa (fun as ρ' => match con ρ' o, conS ρ' as with
    | some d', some ds => retO ρ' (g d' ds)
    | _, _ => .bad) ρ else .bad
  | none => .bad
theorem xx_mt {x a : Expr} {es : List Expr} {T : String} {name : Str} {id : String} {r : V → List V → Hp → VK → Prop} {g : D → List D → Option Sl} {fo : Mo Ar} {f : Mo (List Ar)} {apos cpos : Pos} (C : X.K = e.K) (pa : PlainAttrs T) (slot : Slot T name id) (hty : typeOf (.builtin id) = pure (.type "method_descriptor")) (hm : MtR X id r) (mg : MtG e r T g)
    (hx : PE X x (tO e W fo)) (ha : PA X (a :: es) (tA e W f)) (hbase : attributeBase x name X.env (eval x X.env) = eval x X.env := by rfl)
    (hfew : ((backTo cpos (starEach (a :: es) X.env)).all (fun x => !x.1) && (backToKw cpos (keywordEach [] X.env)).all (fun x => x.1.isSome)
      && decide ((a :: es).length + ([] : List Keyword).length + (if ([] : List Keyword).isEmpty then 0 else 1) < 30)) = true := by rfl)
    (hline : (apos.endLine == cpos.line) = true := by rfl) (hs : starEach (a :: es) X.env = (false, eval a X.env) :: starEach es X.env := by rfl) (hplain : (backTo cpos (starEach es X.env)).any (·.1) = false := by rfl) :
    PE X (.Call (.Attribute x name apos) (a :: es) [] cpos) (tX e W (mtX T g fo f)) := (pe_bm pa slot hty hm hx ha hbase hfew hline hs hplain).imp fun σ H Q ⟨Fo, G, ρ, R, p⟩ => by
  refine tG.mono (Post.bind R p) fun v H1 ⟨G1, ρ1, o, g1, R1, r1, p1⟩ => ?_
  cases q1 : con ρ1 o with
  | none => simp only [q1] at p1; exact p1.elim
  | some d =>
    simp only [q1] at p1
    by_cases c : kindIs T d = true
    · rw [if_pos c] at p1
      refine ⟨kind_ty C R1.gh (r1.co R1 q1) c, ?_⟩
      refine tG.mono (Post.bind R1 p1) fun vs H2 ⟨G2, ρ2, as, g2, R2, r2, p2⟩ => ?_
      cases q2 : con ρ2 o with
      | none => simp only [q2] at p2; exact p2.elim
      | some d' =>
        cases q3 : conS ρ2 as with
        | none => simp only [q2, q3] at p2; exact p2.elim
        | some ds =>
          simp only [q2, q3] at p2
          cases q4 : g d' ds with
          | none => simp only [q4, retO] at p2; exact p2.elim
          | some s =>
            simp only [q4, retO] at p2
            exact mg G2 H2 v vs d' ds s Q R2.gh ((r1.mono g2 : ArR e Fo G2 σ H2 ρ2 v o).co R2 q2) (ArRs.co R2 r2 q3) q4 fun G' H' v gr n => p2.new R2 gr n
    · rw [if_neg c] at p1
      exact p1.elim
theorem xx_mt0 {x : Expr} {T : String} {name : Str} {id : String} {r : V → List V → Hp → VK → Prop} {g : D → List D → Option Sl} {fo : Mo Ar} {apos cpos : Pos} (C : X.K = e.K) (pa : PlainAttrs T) (slot : Slot T name id) (hty : typeOf (.builtin id) = pure (.type "method_descriptor")) (hm : MtR X id r) (mg : MtG e r T g)
    (hx : PE X x (tO e W fo)) (hbase : attributeBase x name X.env (eval x X.env) = eval x X.env := by rfl) (hline : (apos.endLine == cpos.line) = true := by rfl) :
    PE X (.Call (.Attribute x name apos) [] [] cpos) (tX e W (mtX T g fo nilA)) := (pe_bm0 pa slot hty hm hx hbase hline).imp fun σ H Q ⟨Fo, G, ρ, R, p⟩ => by
  refine tG.mono (Post.bind R p) fun v H1 ⟨G1, ρ1, o, g1, R1, r1, p1⟩ => ?_
  cases q1 : con ρ1 o with
  | none => simp only [q1] at p1; exact p1.elim
  | some d =>
    simp only [q1] at p1
    by_cases c : kindIs T d = true
    · rw [if_pos c] at p1
      refine ⟨kind_ty C R1.gh (r1.co R1 q1) c, ?_⟩
      have p2 : Post e W (fun e Fo G σ H ρ v s => Val e Fo G σ H ρ v s) Fo G1 σ ρ1 (match con ρ1 o, (some [] : Option (List D)) with
        | some d', some ds => retO ρ1 (g d' ds)
        | _, _ => .bad) Q := p1
      simp only [q1] at p2
      cases q4 : g d [] with
      | none => simp only [q4, retO] at p2; exact p2.elim
      | some s =>
        simp only [q4, retO] at p2
        exact mg G1 H1 v [] d [] s Q R1.gh (r1.co R1 q1) .nil q4 fun G' H' v gr n => p2.new R1 gr n
    · rw [if_neg c] at p1
      exact p1.elim
end
/-! ### list.count, list.index of flat things -/
section
variable {X : Cx} {e : Ev}
theorem countP_eqU {x : V} : ∀ {xs : List V} {us : List Value}, Vals xs us → xs.all flatV = true → us.countP (eqU x) = xs.countP fun y => eqV y x
  | _, _, .nil, _ => rfl
  | y :: xs, u :: us, .cons r t, f => by
    rw [List.all_cons, Bool.and_eq_true] at f
    rw [List.countP_cons, List.countP_cons, eqU_of r f.1, countP_eqU t f.2]
def rCntF (K : PySem.W.Frag) : V → List V → Hp → VK → Prop := fun x xs H Q => ∃ (p : Addr) (ys : List V) (y : V), x = .ref p ∧ xs = [y] ∧ SqL K H p ys ∧ flatV y = true ∧ ys.all flatV = true ∧ Q (.int (ys.countP fun z => eqV z y : Nat)) H
theorem mt_countF : MtR X "list.count" (rCntF X.K) := by
  intro pins s σ H x xs v us Q I rx rxs h
  obtain ⟨p, ys, y, rfl, rfl, hs, fy, fys, q⟩ := h
  cases rx
  cases rxs with
  | cons ry rt =>
    rename_i uy ut
    cases rt
    obtain ⟨its, rv, ⟨⟨cls, dd, data, sl⟩, n, ho, hc, hdn, hd⟩, hlen⟩ := I.list hs
    simp only at hc hd
    subst hc hd
    refine call_meets PySem.F.slot_list_count ⟨_, ho, rfl⟩ PySem.F.entry_list_count (PySem.F.args_list_count_2 _ _)
      (SeqAt.list_countAt p its.toArray n dd sl uy (eqU y)) ⟨ho, fun u' hu' => mem_eqAt ry fy rv fys u' (by simpa using hu'), ?_⟩
    have ec : its.toArray.toList.countP (eqU y) = ys.countP (fun z => eqV z y) := by
      show its.countP (eqU y) = _
      exact countP_eqU rv fys
    refine ⟨.int (ys.countP (fun z => eqV z y) : Nat), H, I.tok _, ⟨s.toks, ?_⟩, q⟩
    show Value.int ((its.toArray.toList.countP (eqU y) : Nat) : Int) s.toks = _
    rw [ec]
theorem mt_countU (C : X.K = e.K) : MtR X "list.count" (rCntF e.K) := by rw [← C]; exact mt_countF
theorem mt_indexU (C : X.K = e.K) : MtR X "list.index" (rIndex e.K) := by rw [← C]; exact mt_index
def countG : D → List D → Option Sl
  | .lst xs, [d] => (match flatD d, flatsD xs with
    | some v, some vs => intS (vs.countP fun z => eqV z v : Nat)
    | _, _ => none)
  | _, _ => none
theorem mg_count : MtG e (rCntF e.K) "list" countG := by
  intro G H v vs d ds s Q g h1 h2 hs q
  cases d with
  | lst xs =>
    obtain ⟨b, ws, rfl, k1, k2⟩ := h1.lst g
    cases h2 with
    | nil => cases hs
    | cons a r =>
      cases r with
      | cons _ _ => cases hs
      | nil =>
        rename_i y d1
        simp only [countG] at hs
        cases q1 : flatD d1 with
        | none => simp only [q1] at hs; cases hs
        | some w =>
          cases q2 : flatsD xs with
          | none => simp only [q1, q2] at hs; cases hs
          | some wws =>
            simp only [q1, q2] at hs
            cases hs
            obtain ⟨rfl, e1⟩ := flat_of (a.dr (flatD_lst q1)) q1
            obtain ⟨rfl, e2⟩ := flats_of k2 q2
            exact ⟨b, _, _, rfl, rfl, SqL.of k1, e1, e2, q G H _ (Gr.refl g) (.int _)⟩
  | _ => cases hs
/-- the first place -/
def indexG : D → List D → Option Sl
  | .lst xs, [d] => (match flatD d, flatsD xs with
    | some v, some vs => (vs.findIdx? fun z => eqV z v).bind fun (j : Nat) => intS j
    | _, _ => none)
  | _, _ => none
theorem mg_index : MtG e (rIndex e.K) "list" indexG := by
  intro G H v vs d ds s Q g h1 h2 hs q
  cases d with
  | lst xs =>
    obtain ⟨b, ws, rfl, k1, k2⟩ := h1.lst g
    cases h2 with
    | nil => cases hs
    | cons a r =>
      cases r with
      | cons _ _ => cases hs
      | nil =>
        rename_i y d1
        simp only [indexG] at hs
        cases q1 : flatD d1 with
        | none => simp only [q1] at hs; cases hs
        | some w =>
          cases q2 : flatsD xs with
          | none => simp only [q1, q2] at hs; cases hs
          | some wws =>
            simp only [q1, q2] at hs
            obtain ⟨rfl, e1⟩ := flat_of (a.dr (flatD_lst q1)) q1
            obtain ⟨rfl, e2⟩ := flats_of k2 q2
            obtain ⟨j, h3, h4⟩ := Option.bind_eq_some_iff.mp hs
            cases h4
            obtain ⟨hj, h5, h6⟩ := List.findIdx?_eq_some_iff_getElem.mp h3
            refine ⟨b, ws, y, j, ws[j], rfl, rfl, SqL.of k1, e1, e2, List.getElem?_eq_getElem hj, h5, fun m z' hm hz => ?_, q G H _ (Gr.refl g) (.int _)⟩
            have hml : m < ws.length := by omega
            rw [List.getElem?_eq_getElem hml] at hz
            cases hz
            exact Bool.eq_false_iff.mpr (h6 m hm)
  | _ => cases hs
/-! ### methods of texts -/
def upperG : D → List D → Option Sl
  | .str a, [] => if a.length ≤ 5592405 then some (.fz (.str (Txt.upper a))) else none
  | _, _ => none
theorem mg_upper : MtG e (fun x xs H Q => ∃ a, x = .str a ∧ xs = [] ∧ a.length ≤ 5592405 ∧ Q (.str (Txt.upper a)) H) "str" upperG := by
  intro G H v vs d ds s Q g h1 h2 hs q
  cases d with
  | str a =>
    cases h1.str
    cases h2 with
    | cons _ _ => cases hs
    | nil =>
      simp only [upperG] at hs
      by_cases c : a.length ≤ 5592405
      · rw [if_pos c] at hs
        cases hs
        exact ⟨a, rfl, rfl, c, q G H _ (Gr.refl g) (.str _)⟩
      · rw [if_neg c] at hs
        cases hs
  | _ => cases hs
def joinG : D → List D → Option Sl
  | .str a, [.lst xs] => (strsD xs).bind fun ys => if (ys.map (·.length)).sum + ys.length * a.length ≤ 16777216 then some (.fz (.str (Txt.join a ys))) else none
  | .str a, [.tup xs] => (strsD xs).bind fun ys => if (ys.map (·.length)).sum + ys.length * a.length ≤ 16777216 then some (.fz (.str (Txt.join a ys))) else none
  | _, _ => none
def rJoinU (K : PySem.W.Frag) : V → List V → Hp → VK → Prop := fun x xs H Q => ∃ a p, ∃ ys : List Str, x = .str a ∧ xs = [.ref p] ∧ (SqL K H p (ys.map V.str) ∨ SqT K H p (ys.map V.str)) ∧
    (ys.map (·.length)).sum + ys.length * a.length ≤ 16777216 ∧ Q (.str (Txt.join a ys)) H
theorem mt_joinU (C : X.K = e.K) : MtR X "str.join" (rJoinU e.K) := by rw [← C]; exact mt_join
theorem mg_join : MtG e (rJoinU e.K) "str" joinG := by
  intro G H v vs d ds s Q g h1 h2 hs q
  cases d with
  | str a =>
    cases h1.str
    cases h2 with
    | nil => cases hs
    | @cons y d1 _ _ b r =>
      cases r with
      | cons _ _ => cases d1 <;> cases hs
      | nil =>
        cases d1 with
        | lst xs =>
          obtain ⟨p, ws, rfl, k1, k2⟩ := b.lst g
          obtain ⟨ys, h3, h4⟩ := Option.bind_eq_some_iff.mp (show (strsD xs).bind _ = some s from hs)
          split at h4
          · rename_i c
            cases h4
            rw [strsD_eq h3] at k2
            rw [k2.strs] at k1
            exact ⟨a, p, ys, rfl, rfl, .inl (SqL.of k1), c, q G H _ (Gr.refl g) (.str _)⟩
          · cases h4
        | tup xs =>
          obtain ⟨p, ws, rfl, k1, k2⟩ := b.tup g
          obtain ⟨ys, h3, h4⟩ := Option.bind_eq_some_iff.mp (show (strsD xs).bind _ = some s from hs)
          split at h4
          · rename_i c
            cases h4
            rw [strsD_eq h3] at k2
            rw [k2.strs] at k1
            exact ⟨a, p, ys, rfl, rfl, .inr k1, c, q G H _ (Gr.refl g) (.str _)⟩
          · cases h4
        | _ => cases hs
  | _ => cases hs
end
end L2.WD
/-! The data layer, part 8: defs, their promises, their calls. -/
namespace L2.WD
open PySem PySem.Spec PyProof.Rows

abbrev ValL : RlT Sl V := fun e Fo G σ H ρ v s => Val e Fo G σ H ρ v s
abbrev WK (E : XK) : WX := fun cls od _ H => E cls od H
/-- the promise of a def: what its function of slots gives -/
def spD (e : Ev) (n : Nat) (F : Mo Sl) : Sp := fun vs H Q E => vs.length = n ∧ tX e (WK E) F (vs.map some) H Q

def Sl.flag (p : Bool) : Sl → Sl
  | .ow _ xs => .ow p xs
  | .oo _ c fs => .oo p c fs
  | s => s
/-- a def's own look at its arguments: own lists are the caller's -/
def give (s : Sl) : Sl := s.flag true
def back : List Sl → List Sl → List Sl
  | a :: as, r :: ρ => (if a.owned = true then r.flag a.mine else a) :: back as ρ
  | as, _ => as
def bodyF (n : Nat) (g : So) : Mo Sl := fun as => match g (as.map give ++ List.replicate (n - as.length) .no) with
  | .rt ρ s => .ok (back as ρ) s
  | .nx ρ => .ok (back as ρ) (.fz .non)
  | .exc ρ c fs => .exc (back as ρ) c fs
  | _ => .bad
theorem flag_owned {p : Bool} {s : Sl} : (s.flag p).owned = s.owned := by cases s <;> rfl
theorem flag_mine {p : Bool} {s : Sl} (h : s.owned = true) : (s.flag p).mine = p := by cases s <;> first | rfl | cases h
section
variable {e : Ev} {Fo G H : Hp} {σ σ' : St} {ρ as : List Sl} {vs : List V}
theorem OwR.flag {b : Addr} {s : Sl} {p : Bool} (h : OwR e Fo G H b s) : OwR e Fo G H b (s.flag p) := by
  cases h with
  | ow a b c d => exact .ow a b c d
  | oo a b c d e f g => exact .oo a b c d e f g
theorem SlR.flag {o : Option V} {s : Sl} {p : Bool} (h : SlR e Fo G H o s) : SlR e Fo G H o (s.flag p) := by
  cases h with
  | no => exact .no
  | fz r => exact .fz r
  | own r => exact .own r.flag
theorem back_length : ∀ (as ρ : List Sl), (back as ρ).length = as.length
  | [], _ => by cases ‹List Sl› <;> rfl
  | a :: as, [] => rfl
  | a :: as, r :: ρ => by simp [back, back_length as ρ]
theorem back_get : ∀ (as ρ : List Sl) (i : Nat) (a r : Sl), as[i]? = some a → ρ[i]? = some r → (back as ρ)[i]? = some (if a.owned = true then r.flag a.mine else a)
  | [], _, _, _, _, h, _ => by simp at h
  | a :: as, [], _, _, _, _, h => by simp at h
  | a :: as, r :: ρ, 0, _, _, h1, h2 => by simp at h1 h2; subst h1 h2; rfl
  | a :: as, r :: ρ, i + 1, _, _, h1, h2 => by
    have := back_get as ρ i _ _ (by simpa using h1) (by simpa using h2)
    simpa [back] using this
theorem start_get {N : List Str} {i : Nat} (h : i < vs.length) : (start N vs)[i]? = (vs.map some)[i]? := by
  unfold start
  rw [List.getElem?_append_left (by simpa using h)]
/-- a def's slots at its entry -/
theorem Rel.entry {N : List Str} (R : Rel e Fo G (vs.map some) H as) : Rel e Fo G (start N vs) H (as.map give ++ List.replicate (N.length - as.length) .no) := by
  have hl : vs.length = as.length := by simpa using R.len
  refine ⟨R.gh, R.fh, R.fg, .of_get (by simp [start, hl]) fun i o s h1 h2 => ?_, fun i j b s t h1 h2 o1 o2 e1 e2 => ?_⟩
  · by_cases c : i < as.length
    · rw [start_get (by omega)] at h1
      rw [List.getElem?_append_left (by simpa using c), List.getElem?_map] at h2
      obtain ⟨s', h3, h4⟩ := Option.map_eq_some_iff.mp h2
      subst h4
      obtain ⟨o', h5, h6⟩ := R.get h3
      rw [h1] at h5
      cases h5
      exact h6.flag
    · rw [List.getElem?_append_right (by simpa using c)] at h2
      have : s = .no := by
        have := List.mem_of_getElem? h2
        exact List.eq_of_mem_replicate this
      subst this
      exact .no
  · have key : ∀ {n : Nat} {u : Sl}, (as.map give ++ List.replicate (N.length - as.length) Sl.no)[n]? = some u → u.owned = true → ∃ u', as[n]? = some u' ∧ u'.owned = true := fun {n u} hn ho => by
      by_cases c : n < as.length
      · rw [List.getElem?_append_left (by simpa using c), List.getElem?_map] at hn
        obtain ⟨s', h3, h4⟩ := Option.map_eq_some_iff.mp hn
        subst h4
        exact ⟨s', h3, by unfold give at ho; rw [flag_owned] at ho; exact ho⟩
      · rw [List.getElem?_append_right (by simpa using c)] at hn
        have : u = .no := List.eq_of_mem_replicate (List.mem_of_getElem? hn)
        subst this
        cases ho
    obtain ⟨s', k1, k2⟩ := key h1 o1
    obtain ⟨t', k3, k4⟩ := key h2 o2
    have lt : ∀ {n : Nat} {u : Sl}, as[n]? = some u → n < vs.length := fun {n u} h => by
      by_cases c : n < as.length
      · omega
      · rw [List.getElem?_eq_none (by omega)] at h
        cases h
    rw [start_get (lt k1)] at e1
    rw [start_get (lt k3)] at e2
    exact R.ap i j b s' t' k1 k3 k2 k4 e1 e2
/-- .. and at its end, for the caller -/
theorem exit_facts {N : List Str} {G' H' : Hp} (R0 : Rel e Fo G (vs.map some) H as) (g : L2.Same G G') (k : KeepS (start N vs) (as.map give ++ List.replicate (N.length - as.length) .no) σ' ρ) (R : Rel e Fo G' σ' H' ρ) :
    Keep as (back as ρ) ∧ Rel e Fo G' (vs.map some) H' (back as ρ) ∧ ∀ v s, Val e Fo G' σ' H' ρ v s → Val e Fo G' (vs.map some) H' (back as ρ) v s := by
  have hl : vs.length = as.length := by simpa using R0.len
  have lt : ∀ {n : Nat} {u : Sl}, as[n]? = some u → n < as.length := fun {n u} h => by
    by_cases c : n < as.length
    · exact c
    · rw [List.getElem?_eq_none (by omega)] at h
      cases h
  -- an own one among the arguments
  have own : ∀ {i : Nat} {a : Sl}, as[i]? = some a → a.owned = true → ∃ r, ρ[i]? = some r ∧ r.mine = true ∧ σ'[i]? = (vs.map some)[i]? ∧ (back as ρ)[i]? = some (r.flag a.mine) := fun {i a} h ho => by
    have h1 : (as.map give ++ List.replicate (N.length - as.length) Sl.no)[i]? = some (give a) := by
      rw [List.getElem?_append_left (by simpa using lt h), List.getElem?_map, h]
      rfl
    obtain ⟨e1, r, h2, h3⟩ := k i (give a) h1 (flag_mine ho)
    refine ⟨r, h2, h3, by rw [e1, start_get (by have := lt h; omega)], ?_⟩
    rw [back_get as ρ i a r h h2, if_pos ho]
  have get : ∀ {i : Nat} {u : Sl}, (back as ρ)[i]? = some u → ∃ a, as[i]? = some a ∧ ((a.owned = true ∧ ∃ r, ρ[i]? = some r ∧ r.mine = true ∧ σ'[i]? = (vs.map some)[i]? ∧ u = r.flag a.mine) ∨ (a.owned = false ∧ u = a)) := fun {i u} h => by
    have c : i < as.length := by
      by_cases c : i < as.length
      · exact c
      · rw [List.getElem?_eq_none (by rw [back_length]; omega)] at h
        cases h
    refine ⟨as[i], List.getElem?_eq_getElem c, ?_⟩
    cases q : as[i].owned with
    | true =>
      obtain ⟨r, h1, h2, h3, h4⟩ := own (List.getElem?_eq_getElem c) q
      rw [h4] at h
      cases h
      exact .inl ⟨rfl, r, h1, h2, h3, rfl⟩
    | false =>
      refine .inr ⟨rfl, ?_⟩
      have : ∀ (as ρ : List Sl) (i : Nat) (c : i < as.length) (u : Sl), as[i].owned = false → (back as ρ)[i]? = some u → u = as[i] := by
        intro as
        induction as with
        | nil => intro ρ i c; simp at c
        | cons a as ih =>
          intro ρ i c u q h
          cases ρ with
          | nil =>
            have h' : (a :: as)[i]? = some u := h
            rw [List.getElem?_eq_getElem c] at h'
            exact (Option.some.inj h').symm
          | cons r ρ =>
            cases i with
            | zero =>
              have q' : a.owned = false := q
              have h' : (if a.owned = true then r.flag a.mine else a) = u := by simpa [back] using h
              rw [q', if_neg Bool.false_ne_true] at h'
              exact h'.symm
            | succ i =>
              have h' : (back as ρ)[i]? = some u := by simpa [back] using h
              exact ih ρ i (by simpa using c) u (by simpa using q) h'
      exact this as ρ i c u q h
  have lt2 : ∀ {n : Nat} {u : Sl}, (back as ρ)[n]? = some u → n < as.length := fun {n u} h => by
    obtain ⟨a, h1, _⟩ := get h
    exact lt h1
  have R' : Rel e Fo G' (vs.map some) H' (back as ρ) := by
    refine ⟨R.gh, R.fh, R.fg, .of_get (by rw [back_length]; simp [hl]) fun i o s h1 h2 => ?_, fun i j b s t h1 h2 o1 o2 e1 e2 => ?_⟩
    · obtain ⟨a, k1, k2⟩ := get h2
      rcases k2 with ⟨ho, r, m1, m2, m3, rfl⟩ | ⟨ho, rfl⟩
      · obtain ⟨o', n1, n2⟩ := R.get m1
        rw [m3, h1] at n1
        cases n1
        exact n2.flag
      · obtain ⟨o', n1, n2⟩ := R0.get k1
        rw [h1] at n1
        cases n1
        cases n2 with
        | no => exact .no
        | fz r => exact .fz (r.mono g)
        | own r =>
          have := r.at.2.2.2
          rw [ho] at this
          cases this
    · obtain ⟨a, k1, k2⟩ := get h1
      obtain ⟨a2, k3, k4⟩ := get h2
      rcases k2 with ⟨ho, r, m1, m2, m3, rfl⟩ | ⟨ho, rfl⟩
      · rcases k4 with ⟨ho2, r2, n1, n2, n3, rfl⟩ | ⟨ho2, rfl⟩
        · exact R.ap i j b r r2 m1 n1 (Sl.mine_owned m2) (Sl.mine_owned n2) (by rw [m3]; exact e1) (by rw [n3]; exact e2)
        · rw [ho2] at o2; cases o2
      · rw [ho] at o1; cases o1
  refine ⟨fun i s h m => ?_, R', fun v s hv => ⟨hv.1, hv.2.1, fun ho b i t ev ht hto he => ?_⟩⟩
  · obtain ⟨r, h1, h2, h3, h4⟩ := own h (Sl.mine_owned m)
    exact ⟨_, h4, by rw [flag_mine (Sl.mine_owned h2)]; exact m⟩
  · obtain ⟨a, k1, k2⟩ := get ht
    rcases k2 with ⟨ho, r, m1, m2, m3, rfl⟩ | ⟨ho, rfl⟩
    · exact hv.2.2 (by assumption) b i r ev m1 (Sl.mine_owned m2) (by rw [m3]; exact he)
    · rw [ho] at hto; cases hto
end
section
variable {P : Program} {w : World} {e : Ev} {base : Heap} {x qual : Str} {params : Arguments} {body : List Stmt} {scope : Scope} {dvs : List V} {kws : List (Str × V)} {f : Addr} {fd : FuncData}
/-- THE RULE for a def -/
theorem fnD_ok {N ps : List Str} {k : Nat} {g : So} (F : FunD e.K x qual params body scope dvs kws f fd) (S : FnScope N ps scope)
    (hbody : ∀ (X : Cx) (W : WX), EC X e W → X.calm = true → X.prog = P → X.w = w → X.base = base → Room k X.A → (∃ (cdv : Value) (A : Around) (outer : List Env) (s : Shared) (H : Hp) (E : XK), X = cxOf (L2.CX P w) P w e.K e.mg base N qual scope f cdv A outer s H E) → PSs X body (tS e W g)) :
    FnOk P w e.K e.mg base (L2.CX P w) (k + 1) f fd ps (spD e ps.length (bodyF N.length g)) := by
  refine F.ok S (fun vs H Q E h => h.1) fun cdv A outer s H vs Q E hr h => ?_
  refine ⟨tS e (WK E) g, hbody _ (WK E) ⟨rfl, rfl, S.nd, takes_of rfl rfl rfl rfl, passes_of rfl⟩ rfl rfl rfl rfl hr ⟨cdv, A, outer, s, H, E, rfl⟩, ?_⟩
  obtain ⟨_, Fo, G, as, R, p⟩ := h
  refine ⟨Fo, G, _, R.entry (N := N), ?_⟩
  unfold bodyF at p
  cases q : g (as.map give ++ List.replicate (N.length - as.length) Sl.no) with
  | nx ρ =>
    rw [q] at p
    intro G' σ' H' g1 k1 R1
    obtain ⟨f1, f2, f3⟩ := exit_facts R g1 k1 R1
    exact p G' H' .non g1 f1 f2 (.fz .non)
  | rt ρ s =>
    rw [q] at p
    intro G' σ' H' v g1 k1 R1 hv
    obtain ⟨f1, f2, f3⟩ := exit_facts R g1 k1 R1
    exact p G' H' v g1 f1 f2 (f3 v s hv)
  | exc ρ c fs =>
    rw [q] at p
    intro G' σ' H' cls od g1 k1 R1 x
    obtain ⟨f1, f2, f3⟩ := exit_facts R g1 k1 R1
    exact p G' H' cls od g1 f1 f2 x
  | bk ρ => rw [q] at p; exact p.elim
  | ct ρ => rw [q] at p; exact p.elim
  | bad => rw [q] at p; exact p.elim
end

/-! ### a call -/
def argS (ρ : List Sl) : List Ar → List Sl
  | [] => []
  | .vl d :: as => .fz d :: argS ρ as
  | .sl i :: as => ρ.getD i .no :: argS ρ as
/-- the slots of which own lists are handed on -/
def ownIx (ρ : List Sl) : List Ar → List Nat
  | [] => []
  | .vl _ :: as => ownIx ρ as
  | .sl i :: as => if (ρ.getD i .no).owned = true then i :: ownIx ρ as else ownIx ρ as
def wb (ρ : List Sl) : List Ar → List Sl → List Sl
  | .sl i :: as, s :: ss => if (ρ.getD i .no).owned = true then (wb ρ as ss).set i s else wb ρ as ss
  | .vl _ :: as, _ :: ss => wb ρ as ss
  | _, _ => ρ
/-- F at these arguments; more: what stands behind them (defaults) -/
def appF (F : Mo Sl) (more : List D) (as : List Ar) : Mo Sl := fun ρ => if (ownIx ρ as).Nodup then (match F (argS ρ as ++ more.map .fz) with
  | .ok ss s => .ok (wb ρ as ss) s
  | .exc ss c fs => .exc (wb ρ as ss) c fs
  | .bad => .bad) else .bad
def callX (F : Mo Sl) (more : List D) (fa : Mo (List Ar)) : Mo Sl := Mo.bind fa fun as => appF F more as
section
variable {e : Ev} {Fo G H G' H' : Hp} {σ : St} {ρ : List Sl}
theorem argS_length : ∀ as : List Ar, (argS ρ as).length = as.length
  | [] => rfl
  | .vl _ :: as => by simp [argS, argS_length as]
  | .sl _ :: as => by simp [argS, argS_length as]
theorem argS_get : ∀ (as : List Ar) (j : Nat) (a : Ar), as[j]? = some a → (argS ρ as)[j]? = some (match a with | .vl d => .fz d | .sl i => ρ.getD i .no)
  | [], _, _, h => by simp at h
  | .vl d :: as, 0, a, h => by simp at h; subst h; rfl
  | .sl i :: as, 0, a, h => by simp at h; subst h; rfl
  | .vl d :: as, j + 1, a, h => by simpa [argS] using argS_get as j a (by simpa using h)
  | .sl i :: as, j + 1, a, h => by simpa [argS] using argS_get as j a (by simpa using h)
theorem ownIx_mem : ∀ (as : List Ar) (j i : Nat), as[j]? = some (.sl i) → (ρ.getD i .no).owned = true → i ∈ ownIx ρ as
  | [], _, _, h, _ => by simp at h
  | .vl d :: as, 0, i, h, _ => by simp at h
  | .sl k :: as, 0, i, h, o => by
    simp at h
    subst h
    unfold ownIx
    rw [if_pos o]
    exact List.mem_cons_self ..
  | .vl d :: as, j + 1, i, h, o => by
    unfold ownIx
    exact ownIx_mem as j i (by simpa using h) o
  | .sl k :: as, j + 1, i, h, o => by
    unfold ownIx
    have := ownIx_mem as j i (by simpa using h) o
    split
    · exact List.mem_cons_of_mem _ this
    · exact this
theorem ownIx_inj : ∀ (as : List Ar) (j k i : Nat), (ownIx ρ as).Nodup → as[j]? = some (.sl i) → as[k]? = some (.sl i) → (ρ.getD i .no).owned = true → j = k
  | [], _, _, _, _, h, _, _ => by simp at h
  | .vl d :: as, 0, _, _, _, h, _, _ => by simp at h
  | .vl d :: as, _ + 1, 0, _, _, _, h, _ => by simp at h
  | .vl d :: as, j + 1, k + 1, i, n, h1, h2, o => by
    unfold ownIx at n
    rw [ownIx_inj as j k i n (by simpa using h1) (by simpa using h2) o]
  | .sl m :: as, 0, 0, _, _, _, _, _ => rfl
  | .sl m :: as, 0, k + 1, i, n, h1, h2, o => by
    simp at h1
    subst h1
    unfold ownIx at n
    rw [if_pos o] at n
    exact absurd (ownIx_mem as k m (by simpa using h2) o) (List.nodup_cons.mp n).1
  | .sl m :: as, j + 1, 0, i, n, h1, h2, o => by
    simp at h2
    subst h2
    unfold ownIx at n
    rw [if_pos o] at n
    exact absurd (ownIx_mem as j m (by simpa using h1) o) (List.nodup_cons.mp n).1
  | .sl m :: as, j + 1, k + 1, i, n, h1, h2, o => by
    unfold ownIx at n
    have n' : (ownIx ρ as).Nodup := by
      split at n
      · exact (List.nodup_cons.mp n).2
      · exact n
    rw [ownIx_inj as j k i n' (by simpa using h1) (by simpa using h2) o]
theorem wb_length : ∀ (as : List Ar) (ss : List Sl), (wb ρ as ss).length = ρ.length
  | [], _ => by unfold wb; rfl
  | .vl _ :: as, [] => by unfold wb; rfl
  | .sl _ :: as, [] => by unfold wb; rfl
  | .vl _ :: as, s :: ss => by unfold wb; exact wb_length as ss
  | .sl i :: as, s :: ss => by
    unfold wb
    split
    · rw [List.length_set]; exact wb_length as ss
    · exact wb_length as ss
/-- a slot that no argument is, or whose list isn't one's own, stays -/
theorem wb_old : ∀ (as : List Ar) (ss : List Sl) (i : Nat), ((∀ j : Nat, as[j]? ≠ some (Ar.sl i)) ∨ (ρ.getD i .no).owned = false) → (wb ρ as ss)[i]? = ρ[i]?
  | [], _, _, _ => by unfold wb; rfl
  | .vl _ :: as, [], _, _ => by unfold wb; rfl
  | .sl _ :: as, [], _, _ => by unfold wb; rfl
  | .vl _ :: as, s :: ss, i, h => by
    unfold wb
    exact wb_old as ss i (h.imp (fun h j q => h (j + 1) (by simpa using q)) id)
  | .sl k :: as, s :: ss, i, h => by
    have ih := wb_old as ss i (h.imp (fun h j q => h (j + 1) (by simpa using q)) id)
    unfold wb
    split
    · rename_i o
      have ne : k ≠ i := fun z => by
        subst z
        rcases h with h | h
        · exact h 0 rfl
        · rw [h] at o; cases o
      rw [List.getElem?_set_ne ne]
      exact ih
    · exact ih
theorem wb_new : ∀ (as : List Ar) (ss : List Sl) (j i : Nat) (s : Sl), (ownIx ρ as).Nodup → as[j]? = some (.sl i) → ss[j]? = some s → (ρ.getD i .no).owned = true → i < ρ.length → (wb ρ as ss)[i]? = some s
  | [], _, _, _, _, _, h, _, _, _ => by simp at h
  | _ :: _, [], _, _, _, _, _, h, _, _ => by simp at h
  | .vl _ :: as, s0 :: ss, 0, _, _, _, h, _, _, _ => by simp at h
  | .vl _ :: as, s0 :: ss, j + 1, i, s, n, h1, h2, o, l => by
    unfold ownIx at n
    unfold wb
    exact wb_new as ss j i s n (by simpa using h1) (by simpa using h2) o l
  | .sl k :: as, s0 :: ss, 0, i, s, n, h1, h2, o, l => by
    simp at h1 h2
    subst h1 h2
    unfold wb
    rw [if_pos o, List.getElem?_set_self (by rw [wb_length]; exact l)]
  | .sl k :: as, s0 :: ss, j + 1, i, s, n, h1, h2, o, l => by
    have n0 := n
    unfold ownIx at n
    have n' : (ownIx ρ as).Nodup := by
      split at n
      · exact (List.nodup_cons.mp n).2
      · exact n
    have ih := wb_new as ss j i s n' (by simpa using h1) (by simpa using h2) o l
    unfold wb
    split
    · rename_i ok
      have ne : k ≠ i := fun z => by
        subst z
        have := ownIx_inj (.sl k :: as) 0 (j + 1) k n0 rfl h1 o
        omega
      rw [List.getElem?_set_ne ne]
      exact ih
    · exact ih
theorem getD_get {i : Nat} {s : Sl} (h : ρ[i]? = some s) : ρ.getD i .no = s := by rw [List.getD_eq_getElem?_getD, h]; rfl
theorem getD_own {i : Nat} (h : (ρ.getD i .no).owned = true) : ∃ s, ρ[i]? = some s ∧ ρ.getD i .no = s ∧ i < ρ.length := by
  cases q : ρ[i]? with
  | none =>
    rw [List.getD_eq_getElem?_getD, q] at h
    cases h
  | some s =>
    refine ⟨s, rfl, getD_get q, ?_⟩
    by_cases c : i < ρ.length
    · exact c
    · rw [List.getElem?_eq_none (by omega)] at q
      cases q
theorem ArRs.get : ∀ {vs : List V} {as : List Ar} {j : Nat} {a : Ar}, ArRs e G σ vs as → as[j]? = some a → ∃ v, vs[j]? = some v ∧ ArR e G G σ G [] v a
  | _, _, _, _, .nil, h => by simp at h
  | _, _, 0, _, .cons r _, h => by simp at h; subst h; exact ⟨_, rfl, r⟩
  | _, _, j + 1, a, .cons _ t, h => by
    obtain ⟨v, h1, h2⟩ := ArRs.get (j := j) t (by simpa using h)
    exact ⟨v, by simpa using h1, h2⟩
theorem ArRs.length : ∀ {vs : List V} {as : List Ar}, ArRs e G σ vs as → vs.length = as.length
  | _, _, .nil => rfl
  | _, _, .cons _ t => congrArg Nat.succ (ArRs.length t)
/-- an own thing that is handed on, or what hangs on it -/
def Handed (ρ : List Sl) (σ : St) (H : Hp) (as : List Ar) (a : Addr) : Prop := ∃ (j i : Nat) (b : Addr), as[j]? = some (.sl i) ∧ (ρ.getD i .no).owned = true ∧ σ[i]? = some (some (V.ref b)) ∧ (a = b ∨ ∃ C ws, H b = some (.ins C a ws))
open Classical in
noncomputable def outF (G H : Hp) (ρ : List Sl) (σ : St) (as : List Ar) : Hp := fun a => if G a = none ∧ ¬ Handed ρ σ H as a then H a else none
theorem outF_some {as : List Ar} {a : Addr} {o : HO} (h : outF G H ρ σ as a = some o) : H a = some o ∧ G a = none ∧ ¬ Handed ρ σ H as a := by
  unfold outF at h
  by_cases c : G a = none ∧ ¬ Handed ρ σ H as a
  · rw [if_pos c] at h
    exact ⟨h, c.1, c.2⟩
  · rw [if_neg c] at h
    cases h
theorem outF_of {as : List Ar} {a : Addr} {o : HO} (h : H a = some o) (g : G a = none) (n : ¬ Handed ρ σ H as a) : outF G H ρ σ as a = some o := by
  unfold outF
  rw [if_pos ⟨g, n⟩]
  exact h
theorem outF_handed {as : List Ar} {a : Addr} (h : Handed ρ σ H as a) : outF G H ρ σ as a = none := by
  unfold outF
  rw [if_neg fun c => c.2 h]
/-- the arguments as the def's slots -/
theorem Rel.args {vs : List V} {as : List Ar} (R : Rel e Fo G σ H ρ) (r : ArRs e G σ vs as) (n : (ownIx ρ as).Nodup) (ws : List V) (ds : List D) (rd : DRs e G ws ds) : Rel e (outF G H ρ σ as) G ((vs ++ ws).map some) H (argS ρ as ++ ds.map .fz) := by
  have hl := r.length
  have hl2 := rd.length
  have own_ar : ∀ {j : Nat} {s : Sl}, (argS ρ as ++ ds.map Sl.fz)[j]? = some s → s.owned = true → ∃ i, as[j]? = some (.sl i) ∧ ρ[i]? = some s ∧ ρ.getD i .no = s := fun {j s} h o => by
    by_cases c : j < as.length
    · rw [List.getElem?_append_left (by rw [argS_length]; exact c), argS_get as j as[j] (List.getElem?_eq_getElem c)] at h
      cases q : as[j] with
      | vl d =>
        rw [q] at h
        cases h
        cases o
      | sl i =>
        rw [q] at h
        have h' : ρ.getD i .no = s := Option.some.inj h
        have o' : (ρ.getD i .no).owned = true := by rw [h']; exact o
        obtain ⟨s', k1, k2, _⟩ := getD_own o'
        refine ⟨i, by rw [List.getElem?_eq_getElem c, q], by rw [k1, ← k2, h'], h'⟩
    · rw [List.getElem?_append_right (by rw [argS_length]; omega), List.getElem?_map] at h
      obtain ⟨d, _, h2⟩ := Option.map_eq_some_iff.mp h
      subst h2
      cases o
  refine ⟨R.gh, fun b o h => (outF_some h).1, fun b o h => (outF_some h).2.1, .of_get (by simp [argS_length, hl, hl2]) fun j o s h1 h2 => ?_, fun j k b s t h1 h2 o1 o2 e1 e2 => ?_⟩
  · by_cases c : j < as.length
    · rw [List.getElem?_append_left (by rw [argS_length]; exact c), argS_get as j as[j] (List.getElem?_eq_getElem c)] at h2
      rw [List.map_append, List.getElem?_append_left (by simp [hl, c])] at h1
      obtain ⟨v, k1, k2⟩ := r.get (List.getElem?_eq_getElem c)
      rw [List.getElem?_map, k1] at h1
      cases h1
      cases q : as[j] with
      | vl d =>
        rw [q] at h2 k2
        cases h2
        exact .fz k2
      | sl i =>
        rw [q] at h2 k2
        have k2' : σ[i]? = some (some v) := k2
        have h2' : ρ.getD i .no = s := Option.some.inj h2
        cases q2 : ρ[i]? with
        | none =>
          rw [List.getD_eq_getElem?_getD, q2] at h2'
          subst h2'
          exact .no
        | some s' =>
          have : s' = s := by rw [← getD_get q2]; exact h2'
          subst this
          obtain ⟨o', m1, m2⟩ := R.get q2
          rw [k2'] at m1
          cases m1
          cases m2 with
          | no => exact .no
          | fz r => exact .fz r
          | @own b _ r =>
            have ho := r.at.2.2.2
            have hd : ∀ a, (a = b ∨ ∃ C ws, H b = some (.ins C a ws)) → outF G H ρ σ as a = none := fun a z => outF_handed ⟨j, i, b, by rw [List.getElem?_eq_getElem c, q], by rw [h2']; exact ho, k2', z⟩
            cases r with
            | ow l1 l2 l3 l4 => exact .own (.ow l1 l2 l3 (hd _ (.inl rfl)))
            | oo l1 l2 l3 l4 l5 l6 l7 => exact .own (.oo l1 l2 l3 l4 l5 (hd _ (.inl rfl)) (hd _ (.inr ⟨_, _, l1⟩)))
    · rw [List.getElem?_append_right (by rw [argS_length]; omega), List.getElem?_map] at h2
      obtain ⟨d, k1, k2⟩ := Option.map_eq_some_iff.mp h2
      subst k2
      rw [List.map_append, List.getElem?_append_right (by simp [hl]; omega), List.getElem?_map] at h1
      rw [argS_length] at k1
      rw [List.length_map, hl] at h1
      obtain ⟨v, m1, m2⟩ := rd.get k1
      rw [m1] at h1
      cases h1
      exact .fz m2
  · obtain ⟨i1, a1, b1, c1⟩ := own_ar h1 o1
    obtain ⟨i2, a2, b2, c2⟩ := own_ar h2 o2
    have sg : ∀ {j i : Nat}, as[j]? = some (.sl i) → ((vs ++ ws).map some)[j]? = some (some (V.ref b)) → σ[i]? = some (some (V.ref b)) := fun {j i} h1 h2 => by
      obtain ⟨v, k1, k2⟩ := r.get h1
      have lt : j < vs.length := by
        by_cases z : j < vs.length
        · exact z
        · rw [List.getElem?_eq_none (by omega)] at k1; cases k1
      rw [List.map_append, List.getElem?_append_left (by simpa using lt), List.getElem?_map, k1] at h2
      cases h2
      exact k2
    have := R.ap i1 i2 b s t b1 b2 o1 o2 (sg a1 e1) (sg a2 e2)
    subst this
    exact ownIx_inj as j k i1 n a1 a2 (by rw [c1]; exact o1)
theorem handed_facts {as : List Ar} {a : Addr} (R : Rel e Fo G σ H ρ) (h : Handed ρ σ H as a) : ∃ (j i : Nat) (c : Addr) (s : Sl), as[j]? = some (.sl i) ∧ ρ[i]? = some s ∧ s.owned = true ∧ σ[i]? = some (some (V.ref c)) ∧ Fo a = none ∧ (a = c ∨ H a = some (.own c)) := by
  obtain ⟨j, i, c, h1, h2, h3, h4⟩ := h
  obtain ⟨s, k1, k2, _⟩ := getD_own h2
  rw [k2] at h2
  obtain ⟨o', m1, m2⟩ := R.get k1
  rw [h3] at m1
  cases m1
  obtain ⟨c', e', q⟩ := m2.owned h2
  cases e'
  refine ⟨j, i, c, s, h1, k1, h2, h3, ?_⟩
  rcases h4 with h4 | ⟨C, ws, h4⟩
  · subst h4
    exact ⟨q.at.2.2.1, .inl rfl⟩
  · cases q with
    | ow l1 l2 l3 l4 =>
      rw [l1] at h4
      cases h4
    | oo l1 l2 l3 l4 l5 l6 l7 =>
      rw [l1] at h4
      cases h4
      exact ⟨l7, .inr l2⟩
/-- behind the call -/
theorem Rel.called {vs ws : List V} {as : List Ar} {ds : List D} {ss : List Sl} (R : Rel e Fo G σ H ρ) (r : ArRs e G σ vs as) (n : (ownIx ρ as).Nodup) (rd : DRs e G ws ds) (g : L2.Same G G') (kp : Keep (argS ρ as ++ ds.map .fz) ss)
    (Rc : Rel e (outF G H ρ σ as) G' ((vs ++ ws).map some) H' ss) : Keep ρ (wb ρ as ss) ∧ Rel e Fo G' σ H' (wb ρ as ss) ∧ ∀ v s, Val e (outF G H ρ σ as) G' ((vs ++ ws).map some) H' ss v s → Val e Fo G' σ H' (wb ρ as ss) v s := by
  have hl := r.length
  have ssl : ss.length = as.length + ds.length := by
    have := Rc.len
    simp [hl, rd.length] at this
    omega
  have foF : ∀ {b : Addr} {o : HO}, Fo b = some o → outF G H ρ σ as b = some o := fun {b o} h => by
    refine outF_of (R.fh _ _ h) (R.fg _ _ h) fun z => ?_
    obtain ⟨_, _, _, _, _, _, _, _, z1, _⟩ := handed_facts R z
    rw [z1] at h
    cases h
  have foN : ∀ {b : Addr}, outF G H ρ σ as b = none → Fo b = none := fun {b} h => by
    cases q : Fo b with
    | none => rfl
    | some o => rw [foF q] at h; cases h
  have owF : ∀ {b : Addr} {s : Sl}, OwR e (outF G H ρ σ as) G' H' b s → OwR e Fo G' H' b s := fun {b s} q => by
    cases q with
    | ow l1 l2 l3 l4 => exact .ow l1 l2 l3 (foN l4)
    | oo l1 l2 l3 l4 l5 l6 l7 => exact .oo l1 l2 l3 l4 l5 (foN l6) (foN l7)
  have still : ∀ {b : Addr} {o : HO}, H b = some o → G b = none → ¬ Handed ρ σ H as b → H' b = some o ∧ G' b = none ∧ outF G H ρ σ as b = some o := fun {b o} h1 h2 h3 => ⟨Rc.fh _ _ (outF_of h1 h2 h3), Rc.fg _ _ (outF_of h1 h2 h3), outF_of h1 h2 h3⟩
  -- a slot behind the call: handed on, or as it was
  have look : ∀ {i : Nat} {s : Sl}, ρ[i]? = some s → (s.owned = true ∧ ∃ (j : Nat) (v : V) (s' : Sl), as[j]? = some (.sl i) ∧ ((vs ++ ws).map some)[j]? = some (some v) ∧ σ[i]? = some (some v) ∧ ss[j]? = some s' ∧ (wb ρ as ss)[i]? = some s' ∧ (argS ρ as ++ ds.map Sl.fz)[j]? = some s) ∨
      ((wb ρ as ss)[i]? = some s ∧ (s.owned = true → ∀ j : Nat, as[j]? ≠ some (Ar.sl i))) := fun {i s} h => by
    by_cases c : s.owned = true ∧ ∃ j : Nat, as[j]? = some (Ar.sl i)
    · obtain ⟨ho, j, hj⟩ := c
      refine .inl ⟨ho, j, ?_⟩
      have jl : j < as.length := by
        by_cases z : j < as.length
        · exact z
        · rw [List.getElem?_eq_none (by omega)] at hj; cases hj
      obtain ⟨v, k1, k2⟩ := r.get hj
      have il : i < ρ.length := by
        by_cases z : i < ρ.length
        · exact z
        · rw [List.getElem?_eq_none (by omega)] at h; cases h
      have sj : ss[j]? = some ss[j] := List.getElem?_eq_getElem (by omega)
      have go : (ρ.getD i .no).owned = true := by rw [getD_get h]; exact ho
      refine ⟨v, ss[j], hj, ?_, k2, sj, wb_new as ss j i _ n hj sj go il, ?_⟩
      · rw [List.map_append, List.getElem?_append_left (by simp [hl, jl]), List.getElem?_map, k1]
        rfl
      · rw [List.getElem?_append_left (by rw [argS_length]; exact jl), argS_get as j _ hj]
        show some (ρ.getD i .no) = some s
        rw [getD_get h]
    · refine .inr ⟨?_, fun ho j hj => c ⟨ho, j, hj⟩⟩
      rw [wb_old as ss i ?_]
      · exact h
      · cases q : s.owned with
        | false => exact .inr (by rw [getD_get h]; exact q)
        | true => exact .inl fun j hj => c ⟨q, j, hj⟩
  have old_of : ∀ {i : Nat} {t : Sl}, (wb ρ as ss)[i]? = some t → ∃ s, ρ[i]? = some s := fun {i t} h => by
    have il : i < ρ.length := by
      by_cases z : i < ρ.length
      · exact z
      · rw [List.getElem?_eq_none (by rw [wb_length]; omega)] at h; cases h
    exact ⟨_, List.getElem?_eq_getElem il⟩
  -- what is not handed on stands
  have notH : ∀ {i : Nat} {s : Sl} {b : Addr}, ρ[i]? = some s → s.owned = true → σ[i]? = some (some (V.ref b)) → (∀ j : Nat, as[j]? ≠ some (Ar.sl i)) → ¬ Handed ρ σ H as b ∧ ∀ dx, H dx = some (.own b) → ¬ Handed ρ σ H as dx := fun {i s b} h ho hb hno => by
    obtain ⟨o, m1, m2⟩ := R.get h
    rw [hb] at m1
    cases m1
    obtain ⟨b', e', q⟩ := m2.owned ho
    cases e'
    obtain ⟨⟨ob, w1, w2⟩, _⟩ := q.at
    refine ⟨fun z => ?_, fun dx hdx z => ?_⟩
    · obtain ⟨j, i', c, t, z1, z2, z3, z4, _, z5⟩ := handed_facts R z
      rcases z5 with z5 | z5
      · subst z5
        have := R.ap i i' b s t h z2 ho z3 hb z4
        subst this
        exact hno j z1
      · rw [w1] at z5
        cases z5
        exact w2
    · obtain ⟨j, i', c, t, z1, z2, z3, z4, _, z5⟩ := handed_facts R z
      rcases z5 with z5 | z5
      · subst z5
        obtain ⟨o', y1, y2⟩ := R.get z2
        rw [z4] at y1
        cases y1
        obtain ⟨c', e', q'⟩ := y2.owned z3
        cases e'
        obtain ⟨⟨ob', v1, v2⟩, _⟩ := q'.at
        rw [hdx] at v1
        cases v1
        exact v2
      · rw [hdx] at z5
        cases z5
        have := R.ap i i' b s t h z2 ho z3 hb z4
        subst this
        exact hno j z1
  refine ⟨fun i s h m => ?_, ⟨Rc.gh, fun b o h => Rc.fh _ _ (foF h), fun b o h => Rc.fg _ _ (foF h), .of_get (by rw [wb_length, R.len]) fun i o t h1 h2 => ?_, fun i k b s t h1 h2 o1 o2 e1 e2 => ?_⟩, fun v s hv => ⟨?_, hv.2.1, fun ho b i t ev ht hto he => ?_⟩⟩
  · rcases look h with ⟨ho, j, v, s', k1, k2, k3, k4, k5, k6⟩ | ⟨k1, k2⟩
    · obtain ⟨s2, n1, n2⟩ := kp j s k6 m
      rw [k4] at n1
      cases n1
      exact ⟨_, k5, n2⟩
    · exact ⟨_, k1, m⟩
  · obtain ⟨s, hs⟩ := old_of h2
    rcases look hs with ⟨ho, j, v, s', k1, k2, k3, k4, k5, k6⟩ | ⟨k1, k2⟩
    · rw [k5] at h2
      cases h2
      rw [k3] at h1
      cases h1
      obtain ⟨o', m1, m2⟩ := Rc.get k4
      rw [k2] at m1
      cases m1
      cases m2 with
      | no => exact .no
      | fz r => exact .fz r
      | own q => exact .own (owF q)
    · rw [k1] at h2
      cases h2
      obtain ⟨o', m1, m2⟩ := R.get hs
      rw [h1] at m1
      cases m1
      cases m2 with
      | no => exact .no
      | fz r => exact .fz (r.mono g)
      | @own b _ q =>
        have ho := q.at.2.2.2
        have nh := notH hs ho h1 (k2 ho)
        cases q with
        | ow l1 l2 l3 l4 =>
          have a1 := still l1 l3 nh.1
          exact .own (.ow a1.1 (l2.mono g) a1.2.1 l4)
        | oo l1 l2 l3 l4 l5 l6 l7 =>
          have a1 := still l1 l4 nh.1
          have a2 := still l2 l5 (nh.2 _ l2)
          exact .own (.oo a1.1 a2.1 (l3.mono g) a1.2.1 a2.2.1 l6 l7)
  · have own_of : ∀ {i : Nat} {t : Sl}, (wb ρ as ss)[i]? = some t → t.owned = true → ∃ s, ρ[i]? = some s ∧ s.owned = true := fun {i t} h ho => by
      obtain ⟨s, hs⟩ := old_of h
      rcases look hs with ⟨ho', _⟩ | ⟨k1, _⟩
      · exact ⟨s, hs, ho'⟩
      · rw [k1] at h
        cases h
        exact ⟨_, hs, ho⟩
    obtain ⟨s', m1, m2⟩ := own_of h1 o1
    obtain ⟨t', m3, m4⟩ := own_of h2 o2
    exact R.ap i k b s' t' m1 m3 m2 m4 e1 e2
  · cases hv.1 with
    | no => exact .no
    | fz r => exact .fz r
    | own q => exact .own (owF q)
  · obtain ⟨s0, hs0⟩ := old_of ht
    rcases look hs0 with ⟨ho', j, v', s', k1, k2, k3, k4, k5, k6⟩ | ⟨k1, k2⟩
    · rw [k5] at ht
      cases ht
      rw [k3] at he
      cases he
      exact hv.2.2 ho b j t ev k4 hto k2
    · rw [k1] at ht
      cases ht
      have nh := notH hs0 hto he (k2 hto)
      obtain ⟨o', m1, m2⟩ := R.get hs0
      rw [he] at m1
      cases m1
      obtain ⟨b', e', q⟩ := m2.owned hto
      cases e'
      obtain ⟨⟨ob, w1, w2⟩, w3, _⟩ := q.at
      have a1 := still w1 w3 nh.1
      subst ev
      obtain ⟨b2, e2, q2⟩ := hv.1.owned ho
      cases e2
      rw [q2.at.2.2.1] at a1
      cases a1.2.2
/-- a def's promise at a call -/
theorem app_core {W : WX} {F : Mo Sl} {more : List D} {as : List Ar} {vs ws : List V} {m : Nat} {Q : VK} (R : Rel e Fo G σ H ρ) (r : ArRs e G σ vs as) (rd : DRs e G ws more) (hm : as.length + more.length = m) (p : Post e W ValL Fo G σ ρ (appF F more as ρ) Q) : spD e m F (vs ++ ws) H Q (WE W σ) := by
  refine ⟨by rw [List.length_append, r.length, rd.length]; exact hm, ?_⟩
  unfold appF at p
  by_cases n : (ownIx ρ as).Nodup
  case neg =>
    rw [if_neg n] at p
    exact p.elim
  rw [if_pos n] at p
  refine ⟨outF G H ρ σ as, G, _, R.args r n ws more rd, ?_⟩
  cases q : F (argS ρ as ++ more.map Sl.fz) with
  | ok ss s =>
    rw [q] at p
    intro G' H' v g k Rc hv
    obtain ⟨f1, f2, f3⟩ := R.called r n rd g k Rc
    exact p G' H' v g f1 f2 (f3 v s hv)
  | exc ss c fs =>
    rw [q] at p
    intro G' H' cls od g k Rc x
    obtain ⟨f1, f2, f3⟩ := R.called r n rd g k Rc
    exact p G' H' cls od g f1 f2 x
  | bad => rw [q] at p; exact p.elim
end
/-- a def that may be called by n things behind which its defaults stand -/
structure CallOk (P : Program) (w : World) (e : Ev) (base : Heap) (k : Nat) (f : Addr) (ps : List Str) (F : Mo Sl) : Prop where
  ex : ∃ fd, FnOk P w e.K e.mg base (L2.CX P w) k f fd ps (spD e ps.length F) ∧ ∀ more : List D, True
section
variable {X : Cx} {e : Ev} {W : WX} {a b c : Expr} {es : List Expr} {pos p : Pos} {x : Str} {k : Nat} {f : Addr} {fd : FuncData} {ps : List Str} {F : Mo Sl} {dvs : List V} {ds : List Value} {more : List D} {fa : Mo (List Ar)}
theorem call_core {σ : St} {H : Hp} {Q : VK} {m : Nat} (hd : ∀ G, DRs e G dvs more) (hm : ∀ ρ ρ' as, fa ρ = .ok ρ' as → as.length + more.length = m) (h : tX e W (callX F more fa) σ H Q) : tCallSD (spD e m F) dvs (WE W) (tA e W fa) σ H Q := by
  obtain ⟨Fo, G0, ρ, R, p⟩ := h
  have hp := p
  refine ⟨Fo, G0, ρ, R, ?_⟩
  unfold callX Mo.bind at p
  cases q : fa ρ with
  | ok ρ1 as =>
    rw [q] at p
    intro G1 H1 vs g1 k1 R1 r1
    exact app_core R1 r1 (hd G1) (hm _ _ _ q) (p.from g1 k1)
  | exc ρ1 c fs => rw [q] at p; exact p
  | bad => rw [q] at p; exact p
theorem xx_call {more : List D} {m : Nat} (C : EC X e W) (Fk : FnOk X.prog X.w X.K X.mg X.base (L2.CX X.prog X.w) k f fd ps (spD e m F)) (hr : Room k X.A) (hg : Gl X x) (hm : X.mg x = some (.ref f)) (hk : PySem.W.keepIn X.K (.ref f) = true) (hb : Binds X.K fd ps ds) (hd : Vals dvs ds) (hdd : ∀ G, DRs e G dvs more)
    (ha : PA X (a :: es) (tA e W fa)) (hn : ∀ ρ ρ' as, fa ρ = .ok ρ' as → as.length + more.length = m) (hdb : (x == ("__debug__" : Str)) = false := by decide) (he : starEach (a :: es) X.env = (false, eval a X.env) :: starEach es X.env := by rfl) (hpl : (backTo pos (starEach es X.env)).any (·.1) = false := by rfl) :
    PE X (.Call (.Name x p) (a :: es) [] pos) (tX e W (callX F more fa)) := (pe_callSD Fk hr hg hm hk hb hd (fun σ => passAt C.tk σ) ha hdb he hpl).imp fun _ _ _ h => call_core hdd hn h
end
end L2.WD
/-! The data layer, part 9: methods, makers, attributes, raise, try. -/
namespace L2.WD
open PySem PySem.Spec PyProof.Rows

/-! ### lengths of argument lists -/
def LenA (f : Mo (List Ar)) (n : Nat) : Prop := ∀ ρ ρ' as, f ρ = .ok ρ' as → as.length = n
theorem lenA_nil : LenA nilA 0 := fun ρ ρ' as h => by cases h; rfl
theorem lenA_cons {f : Mo Ar} {g : Mo (List Ar)} {n : Nat} (h : LenA g n) : LenA (consA f g) (n + 1) := fun ρ ρ' as q => by
  unfold consA Mo.bind at q
  cases q1 : f ρ with
  | ok ρ1 a =>
    simp only [q1] at q
    cases q2 : g ρ1 with
    | ok ρ2 as2 =>
      simp only [q2] at q
      cases q
      rw [List.length_cons, h _ _ _ q2]
    | exc ρ2 c fs => simp only [q2] at q; cases q
    | bad => simp only [q2] at q; cases q
  | exc ρ1 c fs => simp only [q1] at q; cases q
  | bad => simp only [q1] at q; cases q

/-! ### methods -/
/-- an instance that is the receiver -/
def recOf (ρ : List Sl) : Ar → Option (Nat × List (Str × D))
  | .vl (.obj c fs) => some (c, fs)
  | .sl i => (match ρ[i]? with
    | some (.fz (.obj c fs)) => some (c, fs)
    | some (.oo _ c fs) => some (c, fs)
    | _ => none)
  | _ => none
def methX (c : Nat) (m : Str) (F : Mo Sl) (more : List D) (fo : Mo Ar) (fa : Mo (List Ar)) : Mo Sl := Mo.bind fo fun o ρ => match recOf ρ o with
  | some (c', fs) => if c' = c ∧ (fs.lookup m).isNone = true then Mo.bind fa (fun as => appF F more (o :: as)) ρ else .bad
  | none => .bad
section
variable {e : Ev} {W : WX} {Fo G H : Hp} {σ : St} {ρ : List Sl}
/-- an instance that is read -/
theorem rec_of {a : Ar} {v : V} {c : Nat} {fs : List (Str × D)} (R : Rel e Fo G σ H ρ) (r : ArR e Fo G σ H ρ v a) (h : recOf ρ a = some (c, fs)) : ∃ (b dx : Addr) (ws : List (Str × V)), v = .ref b ∧ H b = some (.ins (e.ca c) dx ws) ∧ DRf e G ws fs := by
  cases a with
  | vl d =>
    cases d with
    | obj c' fs' =>
      cases h
      have r' : DR e G v (.obj c fs) := r
      cases r' with
      | obj k1 k2 k3 => exact ⟨_, _, _, rfl, R.gh _ _ k1, k3⟩
    | _ => cases h
  | sl i =>
    have hs : σ[i]? = some (some v) := r
    simp only [recOf] at h
    cases q : ρ[i]? with
    | none => simp only [q] at h; cases h
    | some s =>
      obtain ⟨o, h1, h2⟩ := R.get q
      rw [hs] at h1
      cases h1
      simp only [q] at h
      cases s with
      | fz d =>
        cases d with
        | obj c' fs' =>
          cases h
          cases h2 with
          | fz r' =>
            cases r' with
            | obj k1 k2 k3 => exact ⟨_, _, _, rfl, R.gh _ _ k1, k3⟩
          | own r' => cases r'
        | _ => cases h
      | oo p c' fs' =>
        cases h
        cases h2 with
        | own r' =>
          cases r' with
          | oo k1 k2 k3 k4 k5 k6 k7 => exact ⟨_, _, _, rfl, k1, k3⟩
      | _ => cases h
end
section
variable {X : Cx} {e : Ev} {W : WX} {a o b c : Expr} {es : List Expr} {pos p apos : Pos} {x m : Str} {k : Nat} {f : Addr} {fd : FuncData} {ps : List Str} {F : Mo Sl} {dvs : List V} {ds : List Value} {more : List D} {fa : Mo (List Ar)} {fo : Mo Ar}
def tMethS (C : Addr) (m : Str) (sp : Sp) (dvs : List V) (E : St → XK) (ta : TE) (t : TA) : TE := fun σ H Q => ta σ H fun x H1 => ∃ a dx fs, x = .ref a ∧ H1 a = some (.ins C dx fs) ∧ fs.lookup m = none ∧ t σ H1 fun vs H2 => sp (x :: (vs ++ dvs)) H2 Q (E σ)
theorem pe_methSD {C : Addr} {sp : Sp} {E : St → XK} {ta : TE} {t : TA} {pl : Sem Bool} {CX : CXT} (he : PE X o ta) (c : Cls X.K C) (hm : Meth X.K C m f) (F : FnOk X.prog X.w X.K X.mg X.base CX k f fd ps sp) (hr : Room k X.A) (hb : Binds X.K fd ps ds) (hd : Vals dvs ds) (hx : ∀ σ, PassesAt CX X σ (E σ)) (ha : PA X (a :: es) t)
    (hst : starEach (a :: es) X.env = (false, eval a X.env) :: starEach es X.env := by rfl) (hpl : (backTo pos (starEach es X.env)).any (·.1) = false := by rfl)
    (ht : eval (.Call (.Attribute o m apos) (a :: es) [] pos) X.env = (do
      let ov ← eval o X.env
      standAt apos.atName
      let (f, first) ← holding [ov] (getMethod ov m pl)
      callWith pos f first (backTo pos (starEach (a :: es) X.env)) (backToKw pos (keywordEach [] X.env))) := by rfl) :
    PE X (.Call (.Attribute o m apos) (a :: es) [] pos) (tMethS C m sp dvs E ta t) := by
  refine ⟨fun pins s σ H Q I h => ?_⟩
  refine PySem.W.methodCall_KW (pl := pl) (thn (he.run pins s σ H _ I h) fun u s1 ⟨x, H1, I1, rx, a, dx, fs, ex, ea, l, q⟩ => ?_) ht
  subst ex
  obtain rfl : u = Value.ref a := rx
  refine getmeth_ok I1 ea c hm l ?_
  refine PySem.W.callWith_K (first := [.ref a]) (h₀ := X.base) I.ok.mod.kin hm.kp (thn (ha.run pos pins s1 σ H1 _ I1 q) fun us s2 ⟨vs, H2, I2, r, q2⟩ => ⟨I2.kIn, ?_⟩) hst hpl
  exact run_fnSD (us := .ref a :: us) (vs := .ref a :: vs) F hr hb hd (hx σ) I2 (.cons rfl r) q2
theorem pe_methSD0 {C : Addr} {sp : Sp} {E : St → XK} {ta : TE} {pl : Sem Bool} {CX : CXT} (he : PE X o ta) (c : Cls X.K C) (hm : Meth X.K C m f) (F : FnOk X.prog X.w X.K X.mg X.base CX k f fd ps sp) (hr : Room k X.A) (hb : Binds X.K fd ps ds) (hd : Vals dvs ds) (hx : ∀ σ, PassesAt CX X σ (E σ))
    (ht : eval (.Call (.Attribute o m apos) [] [] pos) X.env = (do
      let ov ← eval o X.env
      standAt apos.atName
      let (f, first) ← holding [ov] (getMethod ov m pl)
      callWith pos f first (backTo pos (starEach [] X.env)) (backToKw pos (keywordEach [] X.env))) := by rfl) :
    PE X (.Call (.Attribute o m apos) [] [] pos) (tMethS C m sp dvs E ta tNil) := by
  refine ⟨fun pins s σ H Q I h => ?_⟩
  refine PySem.W.methodCall_KW (pl := pl) (thn (he.run pins s σ H _ I h) fun u s1 ⟨x, H1, I1, rx, a, dx, fs, ex, ea, l, q⟩ => ?_) ht
  subst ex
  obtain rfl : u = Value.ref a := rx
  refine getmeth_ok I1 ea c hm l ?_
  exact PySem.W.callWith_K0 (first := [.ref a]) I1.kIn hm.kp (run_fnSD (us := [.ref a]) (vs := [.ref a]) F hr hb hd (hx σ) I1 (.cons rfl .nil) q)
theorem meth_core {c : Nat} {n : Nat} {σ : St} {H : Hp} {Q : VK} {t : TA} (hT : ∀ σ H Q, tA e W fa σ H Q → t σ H Q) (hd : ∀ G, DRs e G dvs more) (hm : LenA fa n) (h : tX e W (methX c m F more fo fa) σ H Q) : tMethS (e.ca c) m (spD e (n + more.length + 1) F) dvs (WE W) (tO e W fo) t σ H Q := by
  obtain ⟨Fo, G0, ρ, R, p⟩ := h
  refine tG.mono (Post.bind R p) fun v H1 ⟨G1, ρ1, o, g1, R1, r1, p1⟩ => ?_
  cases q1 : recOf ρ1 o with
  | none => simp only [q1] at p1; exact p1.elim
  | some cf =>
    obtain ⟨c', fs⟩ := cf
    simp only [q1] at p1
    by_cases k : c' = c ∧ (fs.lookup m).isNone = true
    case neg =>
      rw [if_neg k] at p1
      exact p1.elim
    rw [if_pos k] at p1
    obtain ⟨rfl, hl⟩ := k
    obtain ⟨b, dx, ws, rfl, k1, k2⟩ := rec_of R1 r1 q1
    refine ⟨b, dx, ws, rfl, k1, k2.lookup_none (Option.isNone_iff_eq_none.mp hl), hT _ _ _ ?_⟩
    refine ⟨Fo, G1, ρ1, R1, ?_⟩
    unfold Mo.bind at p1
    cases q : fa ρ1 with
    | ok ρ2 as =>
      rw [q] at p1
      intro G2 H2 vs g2 k2' R2 r2
      have ra : ArRs e G2 σ (.ref b :: vs) (o :: as) := .cons (r1.mono g2) r2
      exact app_core R2 ra (hd G2) (by rw [List.length_cons, hm _ _ _ q]; omega) (p1.from g2 k2')
    | exc ρ2 c fs => rw [q] at p1; exact p1
    | bad => rw [q] at p1; exact p1
theorem xx_meth {pl : Sem Bool} {c : Nat} {n : Nat} (C : EC X e W) (hc : Cls e.K (e.ca c)) (hm : Meth e.K (e.ca c) m f) (Fk : FnOk X.prog X.w X.K X.mg X.base (L2.CX X.prog X.w) k f fd ps (spD e (n + more.length + 1) F)) (hr : Room k X.A) (hb : Binds X.K fd ps ds) (hd : Vals dvs ds) (hdd : ∀ G, DRs e G dvs more)
    (ho : PE X o (tO e W fo)) (ha : PA X (a :: es) (tA e W fa)) (hn : LenA fa n) (hst : starEach (a :: es) X.env = (false, eval a X.env) :: starEach es X.env := by rfl) (hpl : (backTo pos (starEach es X.env)).any (·.1) = false := by rfl)
    (ht : eval (.Call (.Attribute o m apos) (a :: es) [] pos) X.env = (do
      let ov ← eval o X.env
      standAt apos.atName
      let (f, first) ← holding [ov] (getMethod ov m pl)
      callWith pos f first (backTo pos (starEach (a :: es) X.env)) (backToKw pos (keywordEach [] X.env))) := by rfl) :
    PE X (.Call (.Attribute o m apos) (a :: es) [] pos) (tX e W (methX c m F more fo fa)) :=
  (pe_methSD (pl := pl) ho (by rw [C.K]; exact hc) (by rw [C.K]; exact hm) Fk hr hb hd (fun σ => passAt C.tk σ) ha hst hpl ht).imp fun _ _ _ h => meth_core (fun _ _ _ z => z) hdd hn h
theorem xx_meth0 {pl : Sem Bool} {c : Nat} (C : EC X e W) (hc : Cls e.K (e.ca c)) (hm : Meth e.K (e.ca c) m f) (Fk : FnOk X.prog X.w X.K X.mg X.base (L2.CX X.prog X.w) k f fd ps (spD e (0 + more.length + 1) F)) (hr : Room k X.A) (hb : Binds X.K fd ps ds) (hd : Vals dvs ds) (hdd : ∀ G, DRs e G dvs more)
    (ho : PE X o (tO e W fo))
    (ht : eval (.Call (.Attribute o m apos) [] [] pos) X.env = (do
      let ov ← eval o X.env
      standAt apos.atName
      let (f, first) ← holding [ov] (getMethod ov m pl)
      callWith pos f first (backTo pos (starEach [] X.env)) (backToKw pos (keywordEach [] X.env))) := by rfl) :
    PE X (.Call (.Attribute o m apos) [] [] pos) (tX e W (methX c m F more fo nilA)) :=
  (pe_methSD0 (pl := pl) ho (by rw [C.K]; exact hc) (by rw [C.K]; exact hm) Fk hr hb hd (fun σ => passAt C.tk σ) ht).imp fun _ _ _ h => meth_core (fun _ _ _ ⟨Fo, G, ρ, R, p⟩ => p.here R .nil) hdd lenA_nil h

/-! ### an instance is made -/
theorem run_makeS {CX : CXT} {C : Addr} {sp : Sp} {E : XK} {pins : List (Addr × Obj)} {σ : St} {H : Hp} {s : Shared} {Q : VK} {us : List Value} {vs : List V} (M : Mk X.K C f) (F : FnOk X.prog X.w X.K X.mg X.base CX k f fd ps sp) (hr : Room (k + 1) X.A) (hb : Binds X.K fd ps ds) (hd : Vals dvs ds)
    (hx : PassesAt CX X σ E) (I : Inv X pins σ H s) (r : Vals vs us)
    (h : ∀ x dx, H x = none → H dx = none → dx ≠ x → sp (.ref x :: (vs ++ dvs)) (upd (upd H dx (.own x)) x (.ins C dx [])) (fun v H2 => v = .non ∧ Q (.ref x) H2) E) :
    wpAny (model X.prog X.w) X.A (call (.ref C) us) (EP X pins σ Q) X.xe s := by
  have hq := h (s.heap.objs.size + 1) s.heap.objs.size (I.hok.fresh (Nat.le_succ _)) (I.hok.fresh (Nat.le_refl _)) (Nat.ne_of_lt (Nat.lt_succ_self _))
  have I2 := Inv.made (C := C) I
  have r2 : Vals (V.ref (s.heap.objs.size + 1) :: (vs ++ dvs)) (Value.ref (s.heap.objs.size + 1) :: (us ++ ds)) := .cons rfl (r.append hd)
  have hl : (Value.ref (s.heap.objs.size + 1) :: us ++ ds).length = ps.length := by
    have e := r2.length
    rw [F.len _ _ _ _ hq] at e
    exact e.symm
  refine wpAny_call (make_map (f := f) I.kIn M.makes M.init (beq_iff_eq.mp M.fn) (codeAny_mono (F.run _ X.stack _ _ ⟨Value.ref (s.heap.objs.size + 1) :: us, []⟩ (Value.ref (s.heap.objs.size + 1) :: (us ++ ds)) _ _ E (hr.make C us [])
    (I2.env0.make C us []) (hb _ (Value.ref (s.heap.objs.size + 1) :: us) I2.kIn hl) r2 hq) fun r s' hq' => ?_))
  cases r with
  | error e => exact hx pins _ _ e s' I2 hq'
  | ok fl =>
    cases fl with
    | ret u =>
      obtain ⟨v, H', I3, rv, ev, q3⟩ := I2.after hq'
      subst ev
      exact ⟨rv, ⟨V.ref (s.heap.objs.size + 1), H', I3, rfl, q3⟩⟩
    | next => exact False.elim hq'
    | brk => exact False.elim hq'
    | cont => exact False.elim hq'
def tMakeS (C : Addr) (sp : Sp) (dvs : List V) (E : St → XK) (t : TA) : TE := fun σ H Q => t σ H fun vs H1 => ∀ x dx, H1 x = none → H1 dx = none → dx ≠ x → sp (.ref x :: (vs ++ dvs)) (upd (upd H1 dx (.own x)) x (.ins C dx [])) (fun v H2 => v = .non ∧ Q (.ref x) H2) (E σ)
theorem pe_makeS {CX : CXT} {C : Addr} {sp : Sp} {E : St → XK} {t : TA} (M : Mk X.K C f) (F : FnOk X.prog X.w X.K X.mg X.base CX k f fd ps sp) (hr : Room (k + 1) X.A) (hg : Gl X x) (hm : X.mg x = some (.ref C)) (hb : Binds X.K fd ps ds) (hd : Vals dvs ds) (hx : ∀ σ, PassesAt CX X σ (E σ))
    (ha : PA X (a :: es) t) (hdb : (x == ("__debug__" : Str)) = false := by decide) (he : starEach (a :: es) X.env = (false, eval a X.env) :: starEach es X.env := by rfl) (hpl : (backTo pos (starEach es X.env)).any (·.1) = false := by rfl) :
    PE X (.Call (.Name x p) (a :: es) [] pos) (tMakeS C sp dvs E t) := by
  refine ⟨fun pins s σ H Q I h => ?_⟩
  refine wpAny_Call_Name_kw (ld_glob I hg hm ?_ hdb)
  refine PySem.W.callWith_K (h₀ := X.base) I.ok.mod.kin M.kp (thn (ha.run pos pins s σ H _ I h) fun us s1 ⟨vs, H1, I1, r, q⟩ => ⟨I1.kIn, ?_⟩) he hpl
  exact run_makeS M F hr hb hd (hx σ) I1 r q
theorem pe_makeS0 {CX : CXT} {C : Addr} {sp : Sp} {E : St → XK} (M : Mk X.K C f) (F : FnOk X.prog X.w X.K X.mg X.base CX k f fd ps sp) (hr : Room (k + 1) X.A) (hg : Gl X x) (hm : X.mg x = some (.ref C)) (hb : Binds X.K fd ps ds) (hd : Vals dvs ds) (hx : ∀ σ, PassesAt CX X σ (E σ))
    (hdb : (x == ("__debug__" : Str)) = false := by decide) : PE X (.Call (.Name x p) [] [] pos) (tMakeS C sp dvs E tNil) := by
  refine ⟨fun pins s σ H Q I h => ?_⟩
  refine wpAny_Call_Name_kw (ld_glob I hg hm ?_ hdb)
  exact PySem.W.callWith_K0 I.kIn M.kp (run_makeS (us := []) M F hr hb hd (hx σ) I .nil h)
def takeR {α : Type} (n : Nat) (i : Nat) (r : Re Sl) : Re Sl := match r with
  | .ok ρ (.fz .non) => (match ρ[i]? with
    | some (.oo _ c fs) => .ok (ρ.take n) (.oo false c fs)
    | _ => .bad)
  | .exc ρ c fs => .exc (ρ.take n) c fs
  | _ => .bad
def mkX (c : Nat) (F : Mo Sl) (more : List D) (fa : Mo (List Ar)) : Mo Sl := Mo.bind fa fun as ρ => takeR (α := Unit) ρ.length ρ.length (appF F more (.sl ρ.length :: as) (ρ ++ [.oo false c []]))
end
section
variable {e : Ev} {W : WX} {Fo G H : Hp} {σ : St} {ρ : List Sl}
theorem Rel.push {v : V} {s : Sl} (R : Rel e Fo G σ H ρ) (r : Val e Fo G σ H ρ v s) : Rel e Fo G (σ ++ [some v]) H (ρ ++ [s]) := by
  have hl := R.len
  refine ⟨R.gh, R.fh, R.fg, .of_get (by simp [hl]) fun i o t h1 h2 => ?_, fun i j b t u h1 h2 o1 o2 e1 e2 => ?_⟩
  · by_cases c : i < ρ.length
    · rw [List.getElem?_append_left (by omega)] at h1
      rw [List.getElem?_append_left c] at h2
      obtain ⟨o', k1, k2⟩ := R.get h2
      rw [h1] at k1
      cases k1
      exact k2
    · rw [List.getElem?_append_right (by omega)] at h1 h2
      rw [hl] at h1
      cases q : i - ρ.length with
      | zero =>
        rw [q] at h1 h2
        cases h1
        cases h2
        exact r.1
      | succ n =>
        rw [q] at h1
        simp at h1
  · by_cases c : i < ρ.length
    · rw [List.getElem?_append_left (by omega)] at e1
      rw [List.getElem?_append_left c] at h1
      by_cases c2 : j < ρ.length
      · rw [List.getElem?_append_left (by omega)] at e2
        rw [List.getElem?_append_left c2] at h2
        exact R.ap i j b t u h1 h2 o1 o2 e1 e2
      · rw [List.getElem?_append_right (by omega)] at e2 h2
        rw [hl] at e2
        cases q : j - ρ.length with
        | zero =>
          rw [q] at e2 h2
          cases e2
          cases h2
          exact absurd e1 (r.2.2 o2 b i t rfl h1 o1)
        | succ n =>
          rw [q] at h2
          simp at h2
    · rw [List.getElem?_append_right (by omega)] at e1 h1
      rw [hl] at e1
      cases q : i - ρ.length with
      | zero =>
        rw [q] at e1 h1
        cases e1
        cases h1
        by_cases c2 : j < ρ.length
        · rw [List.getElem?_append_left (by omega)] at e2
          rw [List.getElem?_append_left c2] at h2
          exact absurd e2 (r.2.2 o1 b j u rfl h2 o2)
        · rw [List.getElem?_append_right (by omega)] at h2
          cases q2 : j - ρ.length with
          | zero => omega
          | succ n =>
            rw [q2] at h2
            simp at h2
      | succ n =>
        rw [q] at h1
        simp at h1
theorem Rel.pop {o : Option V} (R : Rel e Fo G (σ ++ [o]) H ρ) : Rel e Fo G σ H (ρ.take σ.length) := by
  have hl : σ.length + 1 = ρ.length := by simpa using R.len
  have lt : ∀ {i : Nat} {s : Sl}, (ρ.take σ.length)[i]? = some s → ρ[i]? = some s ∧ (σ ++ [o])[i]? = σ[i]? := fun {i s} h => by
    by_cases c : i < σ.length
    · rw [List.getElem?_take_of_lt c] at h
      exact ⟨h, List.getElem?_append_left c⟩
    · rw [List.getElem?_eq_none (by simp; omega)] at h
      cases h
  refine ⟨R.gh, R.fh, R.fg, .of_get (by simp; omega) fun i o t h1 h2 => ?_, fun i j b t u h1 h2 o1 o2 e1 e2 => ?_⟩
  · obtain ⟨k1, k2⟩ := lt h2
    obtain ⟨o', m1, m2⟩ := R.get k1
    rw [k2, h1] at m1
    cases m1
    exact m2
  · obtain ⟨k1, k2⟩ := lt h1
    obtain ⟨k3, k4⟩ := lt h2
    exact R.ap i j b t u k1 k3 o1 o2 (by rw [k2]; exact e1) (by rw [k4]; exact e2)
theorem pop_val {v : V} {s : Sl} (R : Rel e Fo G (σ ++ [some v]) H ρ) (h : ρ[σ.length]? = some s) (m : s.mine = false) : Val e Fo G σ H (ρ.take σ.length) v s := by
  obtain ⟨o, k1, k2⟩ := R.get h
  have hs : (σ ++ [some v])[σ.length]? = some (some v) := by simp
  rw [hs] at k1
  cases k1
  refine ⟨k2, m, fun ho b i t ev ht hto he => ?_⟩
  subst ev
  by_cases c : i < σ.length
  · rw [List.getElem?_take_of_lt c] at ht
    have := R.ap i σ.length b t s ht h hto ho (by rw [List.getElem?_append_left c]; exact he) hs
    omega
  · rw [List.getElem?_eq_none (by omega)] at he
    cases he
theorem ArRs.push {vs : List V} {o : Option V} : ∀ {vs : List V} {as : List Ar}, ArRs e G σ vs as → ArRs e G (σ ++ [o]) vs as
  | _, _, .nil => .nil
  | _, _, @ArRs.cons _ _ _ v a _ _ h r => .cons (by
    cases a with
    | vl d => exact h
    | sl i =>
      have h' : σ[i]? = some (some v) := h
      show (σ ++ [o])[i]? = some (some v)
      have c : i < σ.length := by
        by_cases c : i < σ.length
        · exact c
        · rw [List.getElem?_eq_none (by omega)] at h'
          cases h'
      rw [List.getElem?_append_left c]
      exact h') (ArRs.push (vs := []) r)
theorem keep_push {s : Sl} {ρ' : List Sl} (k : Keep (ρ ++ [s]) ρ') : Keep ρ (ρ'.take ρ.length) := fun i t h m => by
  have c : i < ρ.length := by
    by_cases c : i < ρ.length
    · exact c
    · rw [List.getElem?_eq_none (by omega)] at h
      cases h
  obtain ⟨t', k1, k2⟩ := k i t (by rw [List.getElem?_append_left c]; exact h) m
  exact ⟨t', by rw [List.getElem?_take_of_lt c]; exact k1, k2⟩
theorem make_core {F : Mo Sl} {more : List D} {fa : Mo (List Ar)} {dvs : List V} {c n : Nat} {Q : VK} {t : TA} (hT : ∀ σ H Q, tA e W fa σ H Q → t σ H Q) (hd : ∀ G, DRs e G dvs more) (hm : LenA fa n) (h : tX e W (mkX c F more fa) σ H Q) : tMakeS (e.ca c) (spD e (n + more.length + 1) F) dvs (WE W) t σ H Q := by
  obtain ⟨Fo, G0, ρ, R, p⟩ := h
  refine hT _ _ _ ⟨Fo, G0, ρ, R, ?_⟩
  unfold mkX Mo.bind at p
  cases q : fa ρ with
  | exc ρ2 c fs => rw [q] at p; exact p
  | bad => rw [q] at p; exact p
  | ok ρ1 as =>
    rw [q] at p
    intro G1 H1 vs g1 k1 R1 r1 x dx nx nd ne
    have p1 : Post e W ValL Fo G1 σ ρ1 (takeR (α := Unit) ρ1.length ρ1.length (appF F more (.sl ρ1.length :: as) (ρ1 ++ [.oo false c []]))) Q := p.from g1 k1
    have nd' : (upd H1 dx (HO.own x)) x = none := by rw [upd_ne (Ne.symm ne)]; exact nx
    have R2 : Rel e Fo G1 σ (upd (upd H1 dx (.own x)) x (.ins (e.ca c) dx [])) ρ1 := (R1.lay nd).lay nd'
    have hx : (upd (upd H1 dx (HO.own x)) x (.ins (e.ca c) dx [])) x = some (.ins (e.ca c) dx []) := upd_same
    have hdx : (upd (upd H1 dx (HO.own x)) x (.ins (e.ca c) dx [])) dx = some (.own x) := by rw [upd_ne ne, upd_same]
    have vv : Val e Fo G1 σ (upd (upd H1 dx (.own x)) x (.ins (e.ca c) dx [])) ρ1 (.ref x) (.oo false c []) := by
      refine ⟨.own (.oo hx hdx .nil (R1.gnone nx) (R1.gnone nd) (R1.fnone nx) (R1.fnone nd)), rfl, fun _ b i u ev hu ho he => ?_⟩
      cases ev
      obtain ⟨o', m1, m2⟩ := R1.get hu
      rw [he] at m1
      cases m1
      obtain ⟨b', e', m3⟩ := m2.owned ho
      cases e'
      obtain ⟨⟨o2, m4, _⟩, _⟩ := m3.at
      rw [nx] at m4
      cases m4
    have R3 := R2.push vv
    have lσ : σ.length = ρ1.length := R1.len
    have ra : ArRs e G1 (σ ++ [some (V.ref x)]) (.ref x :: vs) (.sl ρ1.length :: as) := .cons (show (σ ++ [some (V.ref x)])[ρ1.length]? = _ by rw [← lσ]; simp) (ArRs.push (vs := []) r1)
    have key : Post e (fun cls od _ H => W cls od σ H) ValL Fo G1 (σ ++ [some (V.ref x)]) (ρ1 ++ [.oo false c []]) (appF F more (.sl ρ1.length :: as) (ρ1 ++ [.oo false c []])) (fun v H2 => v = .non ∧ Q (.ref x) H2) := by
      cases q2 : appF F more (.sl ρ1.length :: as) (ρ1 ++ [.oo false c []]) with
      | bad => rw [q2] at p1; exact p1
      | exc ρ3 c' fs =>
        rw [q2] at p1
        intro G3 H3 cls od g3 k3 R4 xx
        refine p1 G3 H3 cls od g3 (keep_push k3) ?_ xx
        have := R4.pop
        rw [lσ] at this
        exact this
      | ok ρ3 s =>
        rw [q2] at p1
        intro G3 H3 v g3 k3 R4 hv
        simp only [takeR] at p1
        cases s with
        | fz d =>
          cases d with
          | non =>
            simp only at p1
            cases q3 : ρ3[ρ1.length]? with
            | none => simp only [q3] at p1; exact p1.elim
            | some s' =>
              simp only [q3] at p1
              cases s' with
              | oo m c' fs =>
                refine ⟨?_, ?_⟩
                · cases hv.1 with
                  | fz r => cases r; rfl
                  | own r => cases r
                · have rp := R4.pop
                  rw [lσ] at rp
                  have q3' : ρ3[σ.length]? = some (.oo m c' fs) := by rw [lσ]; exact q3
                  refine p1 G3 H3 (.ref x) g3 (keep_push k3) rp ?_
                  -- the flag
                  obtain ⟨o', m1, m2⟩ := R4.get q3'
                  have hs : (σ ++ [some (V.ref x)])[σ.length]? = some (some (V.ref x)) := by simp
                  rw [hs] at m1
                  cases m1
                  cases m2 with
                  | own m3 =>
                    have m3' : OwR e Fo G3 H3 x (.oo false c' fs) := m3.flag (p := false)
                    refine ⟨.own m3', rfl, fun _ b i u ev hu ho he => ?_⟩
                    cases ev
                    by_cases c : i < σ.length
                    · rw [List.getElem?_take_of_lt (by omega)] at hu
                      have := R4.ap i σ.length x u (.oo m c' fs) hu q3' ho rfl (by rw [List.getElem?_append_left c]; exact he) hs
                      omega
                    · rw [List.getElem?_eq_none (by omega)] at he
                      cases he
              | _ => exact p1.elim
          | _ => exact p1.elim
        | _ => exact p1.elim
    have := app_core (W := fun cls od _ H => W cls od σ H) (m := n + more.length + 1) R3 ra (hd G1) (by rw [List.length_cons, hm _ _ _ q]; omega) key
    exact this
end
section
variable {X : Cx} {e : Ev} {W : WX} {a o b : Expr} {es : List Expr} {pos p apos : Pos} {x m : Str} {k n c : Nat} {f : Addr} {fd : FuncData} {ps : List Str} {F : Mo Sl} {dvs : List V} {ds : List Value} {more : List D} {fa : Mo (List Ar)} {fo : Mo Ar}
theorem xx_make (C : EC X e W) (M : Mk e.K (e.ca c) f) (Fk : FnOk X.prog X.w X.K X.mg X.base (L2.CX X.prog X.w) k f fd ps (spD e (n + more.length + 1) F)) (hr : Room (k + 1) X.A) (hg : Gl X x) (hm : X.mg x = some (.ref (e.ca c))) (hb : Binds X.K fd ps ds) (hd : Vals dvs ds) (hdd : ∀ G, DRs e G dvs more)
    (ha : PA X (a :: es) (tA e W fa)) (hn : LenA fa n) (hdb : (x == ("__debug__" : Str)) = false := by decide) (he : starEach (a :: es) X.env = (false, eval a X.env) :: starEach es X.env := by rfl) (hpl : (backTo pos (starEach es X.env)).any (·.1) = false := by rfl) :
    PE X (.Call (.Name x p) (a :: es) [] pos) (tX e W (mkX c F more fa)) := (pe_makeS (by rw [C.K]; exact M) Fk hr hg hm hb hd (fun σ => passAt C.tk σ) ha hdb he hpl).imp fun _ _ _ h => make_core (fun _ _ _ z => z) hdd hn h
theorem xx_make0 (C : EC X e W) (M : Mk e.K (e.ca c) f) (Fk : FnOk X.prog X.w X.K X.mg X.base (L2.CX X.prog X.w) k f fd ps (spD e (0 + more.length + 1) F)) (hr : Room (k + 1) X.A) (hg : Gl X x) (hm : X.mg x = some (.ref (e.ca c))) (hb : Binds X.K fd ps ds) (hd : Vals dvs ds) (hdd : ∀ G, DRs e G dvs more)
    (hdb : (x == ("__debug__" : Str)) = false := by decide) : PE X (.Call (.Name x p) [] [] pos) (tX e W (mkX c F more nilA)) := (pe_makeS0 (by rw [C.K]; exact M) Fk hr hg hm hb hd (fun σ => passAt C.tk σ) hdb).imp fun _ _ _ h => make_core (fun _ _ _ ⟨Fo, G, ρ, R, p⟩ => p.here R .nil) hdd lenA_nil h
end

/-! ### a field of one's own instance is stored -/
def putFD (f : Str) (d : D) : List (Str × D) → List (Str × D)
  | [] => [(f, d)]
  | (g, x) :: r => if g = f then (g, d) :: r else (g, x) :: putFD f d r
section
variable {e : Ev} {W : WX} {Fo G H : Hp} {σ : St} {ρ : List Sl}
theorem DRf.put {f : Str} {v : V} {d : D} (h : DR e G v d) : ∀ {ws : List (Str × V)} {fs : List (Str × D)}, DRf e G ws fs → DRf e G (putF f v ws) (putFD f d fs)
  | _, _, .nil => .cons h .nil
  | _, _, @DRf.cons _ _ g x ws dd fs h1 h2 => by
    unfold putF putFD
    by_cases c : g = f
    · rw [if_pos c, if_pos c]
      exact .cons h h2
    · rw [if_neg c, if_neg c]
      exact .cons h1 (DRf.put h h2)
theorem Rel.upd_obj {i c : Nat} {b dx : Addr} {m : Bool} {fs fs' : List (Str × D)} {ws ws' : List (Str × V)} (R : Rel e Fo G σ H ρ) (h : ρ[i]? = some (.oo m c fs)) (hv : σ[i]? = some (some (.ref b))) (hb : H b = some (.ins (e.ca c) dx ws)) (r : DRf e G ws' fs') : Rel e Fo G σ (upd H b (.ins (e.ca c) dx ws')) (ρ.set i (.oo m c fs')) := by
  obtain ⟨o, h1, h2⟩ := R.get h
  rw [hv] at h1
  cases h1
  cases h2 with
  | own q =>
    cases q with
    | @oo _ _ dx' ws0 _ k1 k2 k3 k4 k5 k6 k7 =>
      rw [hb] at k1
      cases k1
      have il : i < ρ.length := by
        by_cases z : i < ρ.length
        · exact z
        · rw [List.getElem?_eq_none (by omega)] at h
          cases h
      refine ⟨fun d o z => ?_, fun d o z => ?_, R.fg, .of_get (by rw [List.length_set, R.len]) fun j o s j1 j2 => ?_, fun j k d s t j1 j2 o1 o2 e1 e2 => ?_⟩
      · rw [upd_ne (ne_of_none z k4)]
        exact R.gh _ _ z
      · rw [upd_ne (ne_of_none z k6)]
        exact R.fh _ _ z
      · by_cases hj : j = i
        · subst hj
          rw [List.getElem?_set_self il] at j2
          cases j2
          rw [hv] at j1
          cases j1
          exact .own (.oo upd_same (by rw [upd_ne (fun z => by rw [z, hb] at k2; cases k2)]; exact k2) r k4 k5 k6 k7)
        · rw [List.getElem?_set_ne (Ne.symm hj)] at j2
          obtain ⟨o', e1, q⟩ := R.get j2
          rw [j1] at e1
          cases e1
          cases q with
          | no => exact .no
          | fz r => exact .fz r
          | @own b' _ q =>
            have ho := q.at.2.2.2
            have nb : b' ≠ b := fun z => hj (R.ap j i b' s (.oo m c fs) j2 h ho rfl j1 (by rw [z]; exact hv))
            cases q with
            | ow l1 l2 l3 l4 => exact .own (.ow (by rw [upd_ne nb]; exact l1) l2 l3 l4)
            | @oo _ _ dx _ _ l1 l2 l3 l4 l5 l6 l7 => exact .own (.oo (by rw [upd_ne nb]; exact l1) (by rw [upd_ne (fun z => by rw [z, hb] at l2; cases l2)]; exact l2) l3 l4 l5 l6 l7)
      · have own_of : ∀ {n : Nat} {u : Sl}, (ρ.set i (.oo m c fs'))[n]? = some u → u.owned = true → ∃ u', ρ[n]? = some u' ∧ u'.owned = true := fun {n u} hn ho => by
          by_cases hni : n = i
          · subst hni
            exact ⟨_, h, rfl⟩
          · rw [List.getElem?_set_ne (Ne.symm hni)] at hn
            exact ⟨u, hn, ho⟩
        obtain ⟨s', m1, m2⟩ := own_of j1 o1
        obtain ⟨t', m3, m4⟩ := own_of j2 o2
        exact R.ap j k _ s' t' m1 m3 m2 m4 e1 e2
theorem keep_oo {i c : Nat} {m : Bool} {xs ys : List (Str × D)} (h : ρ[i]? = some (.oo m c xs)) : Keep ρ (ρ.set i (.oo m c ys)) := fun j s hs hm => by
  by_cases hj : j = i
  · subst hj
    have il : j < ρ.length := by
      by_cases z : j < ρ.length
      · exact z
      · rw [List.getElem?_eq_none (by omega)] at h
        cases h
    rw [h] at hs
    cases hs
    exact ⟨_, List.getElem?_set_self il, hm⟩
  · rw [List.getElem?_set_ne (Ne.symm hj)]
    exact ⟨s, hs, hm⟩
end
def fldS (c i : Nat) (f : Str) (fd : Mo D) : So := bindS fd fun d ρ => match ρ[i]? with
  | some (.oo m c' fs) => if c' = c ∧ fs.length < 1000 then .nx (ρ.set i (.oo m c' (putFD f d fs))) else .bad
  | _ => .bad
section
variable {X : Cx} {e : Ev} {W : WX} {o v : Expr} {pos p' : Pos} {f : Str} {i c : Nat} {fd : Mo D}
theorem ss_fld (C : EC X e W) (hc : Cls e.K (e.ca c)) (hn : NoAttr e.K (e.ca c) f) (ho : PE X o (tVar i)) (hv : PE X v (tD e W fd)) (hs : swapsWith v (some (.Attribute o f p')) pos.line X.env = pure false := by rfl) : PS X (.Assign [.Attribute o f p'] v pos) (tS e W (fldS c i f fd)) :=
  (ps_fld ho hv hs).imp fun En σ H ⟨Fo, G, ρ, R, p⟩ => tG.mono (PostS.bind R p) fun y H1 ⟨G1, ρ1, d, g1, R1, r1, _, p1⟩ => by
    cases q : ρ1[i]? with
    | none => simp only [q] at p1; exact p1.elim
    | some s =>
      simp only [q] at p1
      cases s with
      | oo m c' fs =>
        simp only at p1
        by_cases k : c' = c ∧ fs.length < 1000
        · rw [if_pos k] at p1
          obtain ⟨rfl, hl⟩ := k
          obtain ⟨ov, h1, h2⟩ := R1.get q
          cases h2 with
          | own h3 =>
            cases h3 with
            | oo k1 k2 k3 k4 k5 k6 k7 =>
              refine ⟨_, h1, _, _, _, _, rfl, k1, by rw [C.K]; exact hc, by rw [C.K]; exact hn, by rw [k3.length]; exact hl, ?_⟩
              exact p1 G1 σ _ (L2.Same.refl _) (keep_oo q).toS (R1.upd_obj q h1 k1 (k3.put r1))
        · rw [if_neg k] at p1
          exact p1.elim
      | _ => exact p1.elim
end

/-! ### an attribute that is read -/
/-- what an exception's class must have for its fields to be read -/
def rAttr (K : PySem.W.Frag) (f : Str) : V → Hp → VK → Prop := fun x H Q => (∃ a C dx fs v, x = .ref a ∧ H a = some (.ins C dx fs) ∧ Cls K C ∧ NoAttr K C f ∧ fs.lookup f = some v ∧ Q v H) ∨
  ∃ a C dd fs v, x = .ref a ∧ H a = some (exh C a (some dd)) ∧ H dd = some (.xd fs) ∧ PySem.W.findIn K (.ref C) "__getattribute__" = some (some (.builtin "BaseException.__getattribute__")) ∧ PySem.W.findIn K (.ref C) "__getattr__" = some none ∧
    PySem.W.subIn K (.ref C) (.type "BaseException") = some true ∧ PySem.W.hasDictIn K C = true ∧ NoAttr K C f ∧ fs.lookup f = some v ∧ Q v H
theorem exh_at {P : Program} {w : World} {H : Hp} {h : Heap} {C a : Addr} {od : Option Addr} (hok : HOk P w H h) (e : H a = some (exh C a od)) : ∃ (oe : Obj) (vs : Array Value), h.get? a = some oe ∧ oe.cls = .ref C ∧ oe.dict = od ∧ oe.data = .fields vs := by
  have x : ObjOk P w H h a (.ext fun h => ∃ (oe : Obj) (vs : Array Value), h.get? a = some oe ∧ oe.cls = .ref C ∧ oe.dict = od ∧ oe.data = .fields vs) := hok a _ e
  exact x.1
theorem exh_ok {P : Program} {w : World} {H : Hp} {h : Heap} {C a : Addr} {od : Option Addr} {oe : Obj} {vs : Array Value} (e : h.get? a = some oe) (c : oe.cls = .ref C) (d : oe.dict = od) (z : oe.data = .fields vs) : ObjOk P w H h a (exh C a od) :=
  ⟨⟨oe, vs, e, c, d, z⟩, ⟨oe, e⟩, fun h1 h2 ⟨o1, v1, x1, x2, x3, x4⟩ k => ⟨o1, v1, k _ x1, x2, x3, x4⟩⟩
section
variable {X : Cx} {ev : Ev} {W : WX} {e : Expr} {pos : Pos} {f : Str} {ta : TE}
theorem pe_attr (he : PE X e ta) (hb : attributeBase e f X.env (eval e X.env) = eval e X.env := by rfl) : PE X (.Attribute e f pos) (fun σ H Q => ta σ H fun x H1 => rAttr X.K f x H1 Q) := by
  refine ⟨fun pins s σ H Q I h => ?_⟩
  refine attr_of hb (thn (he.run pins s σ H _ I h) fun u s1 ⟨x, H1, I1, rx, q⟩ => ?_)
  rcases q with ⟨a, C, dx, fs, v, ex, ea, c, n, l, q⟩ | ⟨a, C, dd, fs, v, ex, ea, ed, ga, gg, sb, hd, n, l, q⟩
  · subst ex
    obtain rfl : u = Value.ref a := rx
    exact getattr_ok I1 ea c n l fun u' s2 I2 ru => ⟨v, H1, I2, ru, q⟩
  · subst ex
    obtain rfl : u = Value.ref a := rx
    obtain ⟨oe, vs, ha, hz1, hz2, hdd⟩ := exh_at I1.hok ea
    have hx : ObjOk X.prog X.w H1 s1.heap dd (.xd fs) := I1.hok dd _ ed
    obtain ⟨mA, hns, hr⟩ := hx
    obtain ⟨od, ho, hl⟩ := lookIn_ns hns
    obtain ⟨u, hu, ru⟩ := RelO.some_of (v := v) (o := mA f) (by rw [← l]; exact hr f)
    have J : PySem.W.InstAt s1.heap a oe C (some od) := ⟨ha, hz1, by unfold PySem.W.notCls; rw [hdd] <;> rfl, by rw [hz2]; exact ho⟩
    exact HandSPX.exc_get I1.kIn J ga gg sb (PySem.W.findObj_own hd n rfl (by rw [hl, hu])) (handed_of ru) ⟨v, H1, I1.tok _, ru, q⟩
/-- facts of a class for one attribute -/
inductive AttOk (ev : Ev) (f : Str) (c : Nat) : Bool → Prop
  | ins : Cls ev.K (ev.ca c) → NoAttr ev.K (ev.ca c) f → AttOk ev f c false
  | exc : PySem.W.findIn ev.K (.ref (ev.ca c)) "__getattribute__" = some (some (.builtin "BaseException.__getattribute__")) → PySem.W.findIn ev.K (.ref (ev.ca c)) "__getattr__" = some none →
    PySem.W.subIn ev.K (.ref (ev.ca c)) (.type "BaseException") = some true → PySem.W.hasDictIn ev.K (ev.ca c) = true → NoAttr ev.K (ev.ca c) f → AttOk ev f c true
/-- cs: the classes of which it is known, whether exceptions -/
def attD (cs : List (Nat × Bool)) (f : Str) (ρ : List Sl) (a : Ar) : Option D := match recOf ρ a with
  | some (c, fs) => if (c, false) ∈ cs then fs.lookup f else none
  | none => (match con ρ a with
    | some (.exc c fs) => if (c, true) ∈ cs then fs.lookup f else none
    | _ => none)
def attX (cs : List (Nat × Bool)) (f : Str) (fo : Mo Ar) : Mo Ar := Mo.bind fo fun a ρ => match attD cs f ρ a with
  | some d => .ok ρ (.vl d)
  | none => .bad
theorem xo_attr {cs : List (Nat × Bool)} {fo : Mo Ar} (C : EC X ev W) (hc : ∀ c ∈ cs, AttOk ev f c.1 c.2) (he : PE X e (tO ev W fo)) (hb : attributeBase e f X.env (eval e X.env) = eval e X.env := by rfl) : PE X (.Attribute e f pos) (tO ev W (attX cs f fo)) :=
  (pe_attr he hb).imp fun σ H Q ⟨Fo, G, ρ, R, p⟩ => by
    refine tG.mono (Post.bind R p) fun v H1 ⟨G1, ρ1, a, g1, R1, r1, p1⟩ => ?_
    rw [C.K]
    unfold attD at p1
    cases q : recOf ρ1 a with
    | some cf =>
      obtain ⟨c, fs⟩ := cf
      simp only [q] at p1
      by_cases k : (c, false) ∈ cs
      · rw [if_pos k] at p1
        cases q2 : fs.lookup f with
        | none => simp only [q2] at p1; exact p1.elim
        | some d =>
          simp only [q2] at p1
          obtain ⟨b, dx, ws, rfl, k1, k2⟩ := rec_of R1 r1 q
          obtain ⟨v', k3, k4⟩ := k2.lookup q2
          cases hc _ k with
          | ins c1 c2 => exact .inl ⟨b, _, dx, ws, v', rfl, k1, c1, c2, k3, p1.here R1 k4⟩
      · rw [if_neg k] at p1
        exact p1.elim
    | none =>
      simp only [q] at p1
      cases q2 : con ρ1 a with
      | none => simp only [q2] at p1; exact p1.elim
      | some d0 =>
        simp only [q2] at p1
        cases d0 with
        | exc c fs =>
          simp only at p1
          by_cases k : (c, true) ∈ cs
          · rw [if_pos k] at p1
            cases q3 : fs.lookup f with
            | none => simp only [q3] at p1; exact p1.elim
            | some d =>
              simp only [q3] at p1
              have dr : DR ev G1 v (.exc c fs) := (r1.co R1 q2).dr fun _ z => nomatch z
              cases hc _ k with
              | exc c1 c2 c3 c4 c5 =>
                cases dr with
                | exc0 h => cases q3
                | exc1 h1 h2 h3 =>
                  obtain ⟨v', k3, k4⟩ := h3.lookup q3
                  exact .inr ⟨_, _, _, _, v', rfl, R1.gh _ _ h1, R1.gh _ _ h2, c1, c2, c3, c4, c5, k3, p1.here R1 k4⟩
          · rw [if_neg k] at p1
            exact p1.elim
        | _ => exact p1.elim
end
end L2.WD
/-! The data layer, part 10: isinstance. -/
namespace L2.WD
open PySem PySem.Spec PySem.Calls PyProof.Rows

/-! ### isinstance of a caught exception, with or without a dict -/
theorem obj_class {K : PySem.W.Frag} {C : Addr} {od : Option Obj} (hdct : PySem.W.hasDictIn K C = true) (ha : PySem.W.findIn K (.ref C) "__class__" = some (some (.builtin "object.__class__")))
    (hn : PySem.W.specialIn K (.builtin "object.__class__") "__get__" = some (some (.builtin "getset_descriptor.__get__"))) (htk : PySem.W.takesIn K (.builtin "object.__class__") = some true) :
    PySem.W.findObj K C od "__class__" = some (.bind (.builtin "getset_descriptor.__get__") (.builtin "object.__class__")) := by
  have hc : (PySem.W.clsIn K C).isSome = true := by
    obtain ⟨cd, hc, _⟩ := PySem.W.any_some hdct
    rw [hc]
    rfl
  cases od with
  | none => exact PySem.W.findObj_dataN hc ha hn htk
  | some od => exact PySem.W.findObj_data hc ha hn htk
section
variable {prog : Program} {w : World} {A : Around} {E : Value → Shared → Prop} {s : Shared} {K : PySem.W.Frag} {x D : Addr} {ox : Obj} {od : Option Obj}
open PySem.W in
theorem kin_classX {Q : Option Value → Shared → Prop} (C : ExcC K D)
    (X : K.In s.heap) (I : InstAt s.heap x ox D od) (h : Q (some (.ref D)) { s with toks := s.toks + 1 }) : wpAny (model prog w) A (getAttr? (.ref x) "__class__") Q E s := by
  have hf : findObj K D od "__class__" = some (.bind (.builtin "getset_descriptor.__get__") (.builtin "object.__class__")) := obj_class C.hd C.ha C.hn C.ht
  obtain ⟨hp, g, d, t, os⟩ := s
  have L0 := I.type (M := model prog w)
  have L1 := looks_findIn (M := model prog w) X C.hg
  have L2 := looks_findIn (M := model prog w) X C.hk
  have L3 := looks_find (M := model prog w) X I hf
  have sub : Looks (model prog w) hp (isInstance (.ref x) (.type "BaseException")) true := L0.andThen (looks_subIn X C.hs)
  have hx0 : (false && onTheHeap (Value.builtin "BaseException.__getattribute__")) = false := rfl
  have hx2 : (Value.builtin "BaseException.__getattribute__" == Value.builtin "object.__getattribute__") = false := by decide +kernel
  have hx1 : (onTheHeap (Value.ref D) && Value.builtin "BaseException.__getattribute__" == Value.builtin "object.__getattribute__") = false := by rw [hx2]; rfl
  unfold getAttr? getAttrBy? getAttrBy
  refine wpAny_bind (wpAny_mkText (wpAny_bind (wpAny_attempt (wpAny_holding (wpAny_bind (L0.at (wpAny_bind (L1.at ?_))))))))
  show wpAny _ _ (if (onTheHeap (Value.ref D) && Value.builtin "BaseException.__getattribute__" == Value.builtin "object.__getattribute__") = true then _ else _) _ _ _
  rw [hx1, if_neg Bool.false_ne_true]
  unfold getAttrByItsOwn hookBefore
  refine wpAny_bind ?_
  rw [if_pos (show onTheHeap (Value.ref D) = true from rfl)]
  refine L2.at ?_
  refine wpAny_bind (wpAny_attempt (wpAny_holding ?_))
  unfold callGetattribute
  rw [hx0, if_neg Bool.false_ne_true]
  unfold boundAndCalled
  rw [PySem.F.excAttr_ValueError.ga.bind (.ref x)]
  refine wpAny_bind (wpAny_pure ?_)
  show wpAny _ _ (call (.builtin "BaseException.__getattribute__") [.ref x, .str "__class__" t]) _ _ _
  refine wpAny_call (codeAny_call_builtin PySem.F.excAttr_ValueError.ga.plain PySem.F.entry_bexc_ga ?_)
  refine @check_slot (model prog w) _ _ ⟨hp, g, d, t + 1, os⟩ "BaseException.__getattribute__" "BaseException" "__getattribute__" (.ref x) [.str "__class__" t] [] _ (by decide +kernel) (by decide +kernel) sub (PySem.F.args_bexc_ga (.ref x) (.str "__class__" t)) ?_
  unfold Builtin.«object.__getattribute__»
  refine wpAny_bind (wpAny_of_eq (a := ((Value.ref x : Value), [Value.str "__class__" t])) (by first | rfl | (simp only [slotArgs]; rfl)) ?_)
  refine wpAny_bind (wpAny_pure (wpAny_bind (L0.at (wpAny_bind (L3.at ?_)))))
  show wpAny _ _ (holding [Value.builtin "object.__class__"] (call (.builtin "getset_descriptor.__get__") [.builtin "object.__class__", .ref x, .ref D]) >>= ret) _ _ _
  refine wpAny_bind (wpAny_holding (wpAny_call (class_get (s := ⟨hp, g, d, t + 1, os⟩) (ox := ox) (od := od) X I C.hm ?_)))
  refine wpAny_pure ?_
  show wpAny _ _ (handedOut (.ref D)) _ _ _
  rw [handedOut_of (v := .ref D) rfl]
  first
    | exact wpAny_pure (wpAny_pure h)
    | exact wpAny_pure h
    | exact wpAny_pure (wpAny_bind (wpAny_pure (wpAny_pure h)))
open PySem.W in
theorem kitx_excX (C : ExcC K D) : KitX K (.ref x) (.ref D) (fun h => InstAt h x ox D od) where
  ty := fun _ _ _ I => I.type
  it := fun _ _ X _ => by
    obtain ⟨cdD, hcD, _⟩ := any_some C.hd
    unfold clsIn at hcD
    split at hcD
    · rename_i c' d' cd' sl' ho
      intro A' Q' E' s' k q
      unfold isType loadHead
      exact wpAny_bind (wpAny_loadPart (k _ _ (X _ _ ho)) (wpAny_pure q))
    · cases hcD
  ne := fun h tp dd its n sl X htp => by
    obtain ⟨cdD, hcD, _⟩ := any_some C.hd
    refine Bool.eq_false_iff.mpr fun q => ?_
    have e : D = tp := Value.ref.inj (beq_iff_eq.mp q)
    subst e
    unfold clsIn at hcD
    split at hcD
    · rename_i c' d' cd' sl' ho
      have z := (X _ _ ho).symm.trans htp
      cases z
    · cases hcD
  ca := fun X I k => kin_classX C X I k
end
/-! ### kinds -/
/-- a kind: 0 NoneType 1 bool 2 int 3 str 4 list 5 tuple 6 dict 7 ValueError 8 LookupError 9 ArithmeticError; 10 + c: class c -/
def kdT : Nat → String
  | 0 => "NoneType"
  | 1 => "bool"
  | 2 => "int"
  | 3 => "str"
  | 4 => "list"
  | 5 => "tuple"
  | 6 => "dict"
  | 7 => "ValueError"
  | 8 => "LookupError"
  | _ => "ArithmeticError"
def kdV (e : Ev) (k : Nat) : Value := if k < 10 then .type (kdT k) else .ref (e.ca (k - 10))
/-- of which kind a thing is -/
def kdX : D → Option Nat
  | .non => some 0
  | .bl _ => some 1
  | .int _ => some 2
  | .str _ => some 3
  | .lst _ => some 4
  | .scr _ => some 4
  | .tup _ => some 5
  | .dic _ => some 6
  | .obj c _ => some (10 + c)
  | .exc c _ => some (10 + c)
  | _ => none
/-- the kind that is asked of -/
def kdC : D → Option Nat
  | .cls c => some (10 + c)
  | .ty n => if n = "bool" then some 1 else if n = "int" then some 2 else if n = "str" then some 3 else if n = "list" then some 4 else if n = "tuple" then some 5 else if n = "dict" then some 6
    else if n = "ValueError" then some 7 else if n = "LookupError" then some 8 else if n = "ArithmeticError" then some 9 else none
  | _ => none
/-- the facts of instances' classes -/
structure InsC (K : PySem.W.Frag) (C : Addr) : Prop where
  cl : Cls K C
  ha : PySem.W.findIn K (.ref C) "__class__" = some (some (.builtin "object.__class__"))
  hn : PySem.W.specialIn K (.builtin "object.__class__") "__get__" = some (some (.builtin "getset_descriptor.__get__"))
  ht : PySem.W.takesIn K (.builtin "object.__class__") = some true
  hm : PySem.W.mroIn K C (.type "object") = some true
/-- T: the table; os: classes of instances, xs: of exceptions -/
structure IsiT (e : Ev) (T : Nat → Nat → Option Bool) (os xs : Nat → Bool) : Prop where
  t : ∀ a b r, T a b = some r → PySem.W.kitOne e.K (kdV e a) (kdV e b) = some r
  o : ∀ c, os c = true → InsC e.K (e.ca c)
  x : ∀ c, xs c = true → ExcC e.K (e.ca c)
def isiG (T : Nat → Nat → Option Bool) (os xs : Nat → Bool) : List D → Option Sl
  | [d, c] => (match kdX d, kdC c with
    | some a, some b => (match d with
      | .obj k _ => if os k = true then (T a b).map fun r => .fz (.bl r) else none
      | .exc k _ => if xs k = true then (T a b).map fun r => .fz (.bl r) else none
      | _ => (T a b).map fun r => .fz (.bl r))
    | _, _ => none)
  | _ => none
/-- isinstance(e, c), e an exception -/
def rIsX (K : PySem.W.Frag) : List V → Hp → VK → Prop := fun xs H Q => ∃ (a C : Addr) (od : Option Addr) (c : V) (u : Value) (b : Bool), xs = [.ref a, c] ∧ ClsV c u ∧ H a = some (exh C a od) ∧ (od = none ∨ ∃ dd fs, od = some dd ∧ H dd = some (.xd fs)) ∧ ExcC K C ∧
  PySem.W.kitOne K (.ref C) u = some b ∧ Q (.bl b) H
def rIsU (K : PySem.W.Frag) : List V → Hp → VK → Prop := fun xs H Q => rIsi K xs H Q ∨ rIsX K xs H Q
section
variable {X : Cx}
theorem call_isX : CallR X (.builtin "isinstance") (rIsX X.K) := by
  intro pins s σ H xs us Q I r h
  obtain ⟨a, C, od, c, u, b, rfl, k, ea, hod, T, e, q⟩ := h
  obtain ⟨u1, u2, rfl, r1, r2⟩ := vals2 r
  have e2 := k.eq r2
  subst e2
  cases (show u1 = Value.ref a from r1)
  obtain ⟨oe, vs, ha, hz1, hz2, hdd⟩ := exh_at I.hok ea
  have J : ∃ od', PySem.W.InstAt s.heap a oe C od' := by
    rcases hod with rfl | ⟨dd, fs, rfl, ed⟩
    · exact ⟨none, ha, hz1, by unfold PySem.W.notCls; rw [hdd] <;> rfl, by rw [hz2]; exact True.intro⟩
    · obtain ⟨mA, hns, _⟩ := (show ObjOk X.prog X.w H s.heap dd (.xd fs) from I.hok dd _ ed)
      obtain ⟨o', ho', _⟩ := lookIn_ns hns
      exact ⟨some o', ha, hz1, by unfold PySem.W.notCls; rw [hdd] <;> rfl, by rw [hz2]; exact ho'⟩
  obtain ⟨od', J⟩ := J
  exact PySem.W.kia_one (kitx_excX T) I.kIn J e (fun z => nomatch z) fun tk => ⟨.bl b, H, I.tok tk, rfl, q⟩
theorem call_isU {e : Ev} (C : X.K = e.K) : CallR X (.builtin "isinstance") (rIsU e.K) := by
  rw [← C]
  intro pins s σ H xs us Q I r h
  rcases h with h | h
  · exact call_isi pins s σ H xs us Q I r h
  · exact call_isX pins s σ H xs us Q I r h
end
section
variable {e : Ev} {T : Nat → Nat → Option Bool} {os xs : Nat → Bool}
theorem kdC_v {G H : Hp} {v : V} {d : D} {k : Nat} (h : CoR e G H v d) (q : kdC d = some k) : ClsV v (kdV e k) := by
  cases d with
  | cls c =>
    cases q
    cases h with
    | st r =>
      cases r
      have : kdV e (10 + c) = .ref (e.ca c) := by
        unfold kdV
        rw [if_neg (by omega), Nat.add_sub_cancel_left]
      rw [this]
      exact .own _
  | ty n =>
    cases h with
    | st r =>
      cases r
      simp only [kdC] at q
      repeat' (split at q)
      all_goals first | (cases q; done) | (subst_vars; cases q; exact .ty _)
  | _ => cases q
theorem cg_isi (I : IsiT e T os xs) : CaG e (rIsU e.K) (isiG T os xs) := by
  intro G H vs ds s Q g h hs q
  cases h with
  | nil => cases hs
  | @cons v d _ _ h1 t =>
    cases t with
    | nil => simp [isiG] at hs
    | @cons w c _ _ h2 t2 =>
      cases t2 with
      | cons _ _ => simp [isiG] at hs
      | nil =>
        simp only [isiG] at hs
        cases q1 : kdX d with
        | none => simp only [q1] at hs; cases hs
        | some a =>
          cases q2 : kdC c with
          | none => simp only [q1, q2] at hs; cases hs
          | some b =>
            simp only [q1, q2] at hs
            have hc := kdC_v h2 q2
            have fin : ∀ {t : Value}, kdV e a = t → TyX e.K H v t → (T a b).map (fun r => Sl.fz (.bl r)) = some s → rIsU e.K [v, w] H Q := fun {t} et ty hm => by
              obtain ⟨r, hr, e1⟩ := Option.map_eq_some_iff.mp hm
              subst e1
              have := I.t a b r hr
              rw [et] at this
              exact .inl ⟨v, w, t, _, r, rfl, hc, ty, this, q G H _ (Gr.refl g) (.bl _)⟩
            cases d with
            | non => cases q1; cases h1.non; exact fin rfl (.base .non) hs
            | bl x => cases q1; cases h1.bl; exact fin rfl (.base (.bl x)) hs
            | int x => cases q1; cases h1.int; exact fin rfl (.base (.int x)) hs
            | str x => cases q1; cases h1.str; exact fin rfl (.base (.str x)) hs
            | lst ys =>
              cases q1
              obtain ⟨p, ws, rfl, k1, k2⟩ := h1.lst g
              exact fin rfl (.base (.lst k1)) hs
            | scr ns =>
              cases q1
              obtain ⟨p, rfl, k1⟩ := h1.scr g
              rcases k1 with (k1 | ⟨o, k1⟩) | k1
              · exact fin rfl (.base (.lst k1)) hs
              · exact fin rfl (.base (.frz k1)) hs
              · obtain ⟨_, us, n, k2, k3, _⟩ := k1
                exact fin rfl (.kList k2 k3) hs
            | tup ys =>
              cases q1
              obtain ⟨p, ws, rfl, k1, k2⟩ := h1.tup g
              rcases k1 with (k1 | ⟨o, k1⟩) | k1
              · exact fin rfl (.base (.tup k1)) hs
              · exact fin rfl (.fTuple k1) hs
              · obtain ⟨_, us, n, k2, k3, _⟩ := k1
                exact fin rfl (.kTuple k2 k3) hs
            | dic ys =>
              cases q1
              have dr := h1.dr fun _ z => nomatch z
              cases dr with
              | dic k1 k2 => exact fin rfl (.base (.dK (g _ _ k1))) hs
            | obj k fs =>
              cases q1
              simp only at hs
              split at hs
              · rename_i c1
                have dr := h1.dr fun _ z => nomatch z
                cases dr with
                | obj k1 k2 k3 =>
                  have C := I.o k c1
                  exact fin (by unfold kdV; rw [if_neg (by omega), Nat.add_sub_cancel_left]) (.base (.ins (g _ _ k1) C.cl C.ha C.hn C.ht C.hm)) hs
              · cases hs
            | exc k fs =>
              cases q1
              simp only at hs
              split at hs
              · rename_i c1
                have dr := h1.dr fun _ z => nomatch z
                obtain ⟨r, hr, e1⟩ := Option.map_eq_some_iff.mp hs
                subst e1
                have tb := I.t _ b r hr
                have ek : kdV e (10 + k) = .ref (e.ca k) := by unfold kdV; rw [if_neg (by omega), Nat.add_sub_cancel_left]
                rw [ek] at tb
                cases dr with
                | exc0 k1 => exact .inr ⟨_, _, none, w, _, r, rfl, hc, g _ _ k1, .inl rfl, I.x k c1, tb, q G H _ (Gr.refl g) (.bl _)⟩
                | exc1 k1 k2 k3 => exact .inr ⟨_, _, some _, w, _, r, rfl, hc, g _ _ k1, .inr ⟨_, _, rfl, g _ _ k2⟩, I.x k c1, tb, q G H _ (Gr.refl g) (.bl _)⟩
              · cases hs
            | _ => cases q1
end
end L2.WD
/-! The data layer, part 11: own exceptions of any family: their __init__, raise. -/
namespace L2.WD
open PySem PySem.Spec PySem.Calls PyProof.Rows

/-- own classes, then a built-in class's mro -/
def refsT (tl : List Value) : List Value → Bool
  | .ref _ :: r => refsT tl r
  | l => l == tl
theorem refsT_cases {tl : List Value} : ∀ l : List Value, refsT tl l = true → (∃ c r, l = .ref c :: r ∧ refsT tl r = true) ∨ l = tl
  | [], e => .inr (beq_iff_eq.mp e)
  | .ref c :: r, e => .inl ⟨c, r, rfl, e⟩
  | .none :: _, e => .inr (beq_iff_eq.mp e)
  | .ellipsis :: _, e => .inr (beq_iff_eq.mp e)
  | .notImplemented :: _, e => .inr (beq_iff_eq.mp e)
  | .bool _ :: _, e => .inr (beq_iff_eq.mp e)
  | .int _ _ :: _, e => .inr (beq_iff_eq.mp e)
  | .float _ _ :: _, e => .inr (beq_iff_eq.mp e)
  | .str _ _ :: _, e => .inr (beq_iff_eq.mp e)
  | .bytes _ _ :: _, e => .inr (beq_iff_eq.mp e)
  | .type _ :: _, e => .inr (beq_iff_eq.mp e)
  | .builtin _ :: _, e => .inr (beq_iff_eq.mp e)
/-- a family: a built-in exception class -/
structure Fam (B newId initId : String) (tl : List Value) : Prop where
  base : ExcBaseFacts B newId initId tl
  pass : ∀ self, refuseLoop self "__setattr__" tl = pure ()
  obj : tl.contains (.type "object") = true
  ini : PySem.W.handedIn (Value.builtin initId) = true
theorem fam_V : Fam "ValueError" "ValueError.__new__" "ValueError.__init__" [.type "ValueError", .type "Exception", .type "BaseException", .type "object"] := ⟨PySem.F.excBase_ValueError, PySem.F.store_ValueError.passes, by decide +kernel, by decide +kernel⟩
theorem fam_L : Fam "LookupError" "LookupError.__new__" "LookupError.__init__" [.type "LookupError", .type "Exception", .type "BaseException", .type "object"] := ⟨PySem.F.excBase_LookupError, PySem.F.store_LookupError.passes, by decide +kernel, by decide +kernel⟩
theorem fam_A : Fam "ArithmeticError" "ArithmeticError.__new__" "ArithmeticError.__init__" [.type "ArithmeticError", .type "Exception", .type "BaseException", .type "object"] := ⟨PySem.F.excBase_ArithmeticError, PySem.F.store_ArithmeticError.passes, by decide +kernel, by decide +kernel⟩
section
variable {B newId initId : String} {tl : List Value}
theorem refsT_pass (F : Fam B newId initId tl) (self : Value) : ∀ l : List Value, refsT tl l = true → refuseLoop self "__setattr__" l = pure () := by
  intro l
  induction l with
  | nil =>
    intro e
    rcases refsT_cases [] e with ⟨c, r', q, h⟩ | q
    · cases q
    · rw [q]; exact F.pass self
  | cons a r ih =>
    intro e
    rcases refsT_cases (a :: r) e with ⟨c, r', q, h⟩ | q
    · obtain ⟨rfl, rfl⟩ := List.cons.inj q
      rw [refuseLoop_ref]; exact ih h
    · rw [q]; exact F.pass self
theorem refsT_contains (X : String) : ∀ l : List Value, refsT tl l = true → l.contains (.type X) = tl.contains (.type X) := by
  intro l
  induction l with
  | nil =>
    intro e
    rcases refsT_cases [] e with ⟨c, r', q, h⟩ | q
    · cases q
    · rw [q]
  | cons a r ih =>
    intro e
    rcases refsT_cases (a :: r) e with ⟨c, r', q, h⟩ | q
    · obtain ⟨rfl, rfl⟩ := List.cons.inj q
      rw [List.contains_cons, ih h]; rfl
    · rw [q]
theorem refsT_ne (F : Fam B newId initId tl) {l : List Value} (e : refsT tl l = true) : l.isEmpty = false := by
  cases l with
  | nil =>
    have := (refsT_contains "object" [] e).trans F.obj
    cases this
  | cons _ _ => rfl
end
/-- what the written part says of the class -/
structure OexG (K : PySem.W.Frag) (tl : List Value) (newId : String) (C : Addr) : Prop where
  cls : ∃ nm q N bs bm sn sub ab col dd k0 k1 k2 k3 k5, K.lookup C = some (excClassObj nm q C N bs bm true sn sub ab col dd k0 k1 k2 k3 k5 newId) ∧ refsT tl bm = true
  sa : PySem.W.findIn K (.ref C) "__setattr__" = some (some (.builtin "object.__setattr__"))
  exC : PySem.W.subIn K (.ref C) (.type "BaseException") = some true
  tyC : PySem.W.typeIn K (.ref C) = some (.type "type")
  kC : PySem.W.keepIn K (.ref C) = true
section
variable {prog : Program} {w : World} {A : Around} {E : Value → Shared → Prop} {R : Result → Shared → Prop} {hp : Heap} {g : Array GenState} {d : Drawn} {t : Nat} {os : OsState} {B newId initId : String} {tl : List Value}
open Builtin Builtin.ObjectAttr PySem.HandSPX in
theorem osa_newG {K : PySem.W.Frag} {name : Str} {tk : Tok} {v : Value} {x C : Addr} {fv : Array Value} {cd : ClassData} (Fm : Fam B newId initId tl)
    (X : K.In hp) (hx : hp.get? x = some { cls := .ref C, data := .fields fv }) (hcd : PySem.W.clsIn K C = some cd) (hm : refsT tl cd.mro = true) (hh : cd.hasDict = true) (ha : PySem.W.findIn K (.ref C) name = some none)
    (hq : ∀ h' tk' dx, (∀ b o, b ≠ x → hp.get? b = some o → h'.get? b = some o) → hp.objs.size ≤ dx → dx ≠ x → h'.get? x = some { cls := .ref C, dict := some dx, data := .fields fv } →
      h'.Ns1 dx (fun y => if y = name then some v else none) → R (.ok (.ret .none)) ⟨h', g, d, tk', os⟩) :
    codeAny (model prog w) A (.call (.builtin "object.__setattr__") ⟨[.ref x, .str name tk, v], []⟩) R ⟨hp, g, d, t, os⟩ := by
  have I : PySem.W.InstAt hp x { cls := .ref C, data := .fields fv } C none := ⟨hx, rfl, rfl, trivial⟩
  have SF := F.store_object
  have ne := refsT_ne Fm hm
  have hob : cd.mro.contains (.type "object") = true := (refsT_contains "object" _ hm).trans Fm.obj
  have hxs : x ≠ hp.objs.size := Nat.ne_of_lt (Heap.lt_size hx)
  have sub : PySem.W.Looks (model prog w) hp (isInstance (.ref x) (.type "object")) true := I.type.andThen (PySem.W.looks_mroIn X (by unfold PySem.W.mroIn; rw [hcd, Option.bind_some, if_neg (by rw [ne]; decide), hob]))
  refine codeAny_call_builtin SF.slot.plain SF.entry (@PySem.W.check_slot (model prog w) _ _ ⟨hp, g, d, t, os⟩ "object.__setattr__" "object" "__setattr__" (.ref x) [.str name tk, v] [] _ SF.kind SF.split sub (SF.args (.ref x) (.str name tk) v) ?_)
  have hmr : PySem.W.Looks (model prog w) hp (mroOf (.ref C)) cd.mro := (PySem.W.looks_clsIn X hcd).andThen .now
  have L3 : PySem.W.Looks (model prog w) hp (storeTaker? none) none := .now
  have hcls : PySem.W.Looks (model prog w) hp (classData C) cd := PySem.W.looks_clsIn X hcd
  rw [PySem.W.osa_eq, refuse_eq]
  refine wpAny_bind (wpAny_bind (I.type.at (wpAny_bind (hmr.at ?_))))
  rw [refsT_pass Fm _ _ hm]
  refine wpAny_pure (wpAny_bind (I.type.at (wpAny_bind ((PySem.W.looks_findIn X ha).at (wpAny_bind (L3.at ?_))))))
  show wpAny _ _ (storeInOwnDict (.ref x) (.ref C) (.str name tk) name v false) _ _ _
  obtain ⟨nm, bs, mro, ns, qn, hd, sn, sb, ab, col, del⟩ := cd
  dsimp only at hh
  subst hh
  unfold storeInOwnDict ownDictForStores
  repeat (first | with_reducible refine store_in_new ?_ ?_ | with_reducible refine wpAny_loadPart_at hx ?_ | with_reducible refine hcls.at ?_ | wp_step)
  · exact ⟨_, #[], _, (Heap.get?_update_ne _ _ _ _ hxs.symm).trans (Heap.get?_push_at rfl rfl), rfl, fun e he => absurd he (by simp), fun _ => rfl⟩
  · intro h' tk' hn' hs
    have hx₁ : (hp.push { cls := .type "dict", data := .dict #[] }).get? x = some { cls := .ref C, data := .fields fv } := Heap.get?_push_of_some _ hx
    refine hq h' tk' hp.objs.size (fun b o hb ho => ?_) (Nat.le_refl _) hxs.symm ?_ hn'
    · exact (hs.2 b (Nat.ne_of_lt (Heap.lt_size ho))).trans ((Heap.get?_update_ne _ _ _ _ hb).trans (Heap.get?_push_of_some _ ho))
    · exact (hs.2 x hxs).trans (Heap.get?_update_self _ hx₁ rfl)
end
section
variable {X : Cx} {pins : List (Addr × Obj)} {σ : St} {H : Hp} {s : Shared} {a C dx : Addr} {f : Str} {y : V} {u : Value} {Q : Unit → Shared → Prop} {E : Value → Shared → Prop} {A : Around} {B newId initId : String} {tl : List Value}
/-- self.f = y, the first one -/
theorem ost_newG (Fm : Fam B newId initId tl) (T : OexG X.K tl newId C) (I : Inv X pins σ H s) (e : H a = some (exo a C none)) (hno : PySem.W.findIn X.K (.ref C) f = some none) (ry : RelV y u)
    (h : ∀ dx s', H dx = none → dx ≠ a → Inv X pins σ (upd (upd H dx (exd dx [(f, y)])) a (exo a C (some dx))) s' → Q () s') : wpAny (model X.prog X.w) A (setAttr (.ref a) f u) Q E s := by
  obtain ⟨nm, q, N, bs, bm, sn, sub, ab, col, dd, k0, k1, k2, k3, k5, hC, hbm⟩ := T.cls
  have hcl : PySem.W.clsIn X.K C = some { name := nm, bases := bs, mro := .ref C :: bm, ns := N, qualname := q, hasDict := true, slotNames := sn, subclasses := sub, abstract := ab, collection := col, hasDel := false } := by unfold PySem.W.clsIn; rw [hC] <;> rfl
  obtain ⟨t1, ho⟩ := exo_at I.hok e
  obtain ⟨hp, g, d, t, os⟩ := s
  refine PySem.W.set_plain I.kIn (ox := { cls := .ref C, dict := none, data := .fields #[.ref t1, .none, .none, .none, .bool false, .none] }) (od := none) ⟨ho, rfl, rfl, trivial⟩ T.sa ?_
  refine osa_newG Fm I.kIn ho hcl (show refsT tl (.ref C :: bm) = true from hbm) rfl hno (fun h' tk' dx k dn dne hx hn => ?_)
  have hnd : H dx = none := I.hok.fresh dn
  have nd : ∀ {b : Addr} {o : Obj}, hp.get? b = some o → b ≠ dx := fun {b o} q => Nat.ne_of_lt (Nat.lt_of_lt_of_le (Heap.lt_size q) dn)
  have na : ∀ {b : Addr}, H b = none → b ≠ a := fun {b} n z => by
    rw [z, e] at n
    cases n
  have Un1 : Un X.fs [] H (upd (upd H dx (exd dx [(f, y)])) a (exo a C (some dx))) hp h' := {
    keep := fun b o q n _ _ => k b o (na n) q
    slot := fun b o q n _ _ => ⟨o.slots, k b o (na n) q⟩
    free := fun b o q n _ => by rw [upd_ne (na n), upd_ne (nd q)]; exact n
    there := fun b o q _ => by
      by_cases hb : b = a
      · exact ⟨_, by rw [hb]; exact hx⟩
      · exact ⟨o, k b o hb q⟩
    tups := fun b xs q => by rw [upd_ne (at_ne e q exo_tup), upd_ne (ne_of_none q hnd)]; exact q
    frzs := fun b o v q => by rw [upd_ne (at_ne e q exo_frz), upd_ne (ne_of_none q hnd)]; exact q
    tbls := fun b ps q => ⟨#[], by rw [upd_ne (at_ne e q exo_tbl), upd_ne (ne_of_none q hnd), q]; simp⟩ }
  refine h dx _ hnd dne (I.un (t' := tk') Un1 fun b o q => ?_)
  by_cases hb : b = a
  · subst hb
    rw [upd_same] at q
    cases q
    exact exo_ok hx
  · rw [upd_ne hb] at q
    by_cases hd : b = dx
    · subst hd
      rw [upd_same] at q
      cases q
      exact exd_ok hn (relO_put (fs := []) ry fun g => True.intro)
    · rw [upd_ne hd] at q
      exact (I.hok b o q).stay (fun c v hc z => k c v (by
          rcases hc with hc | hc
          · rw [hc]
            exact hb
          · exact at_ne e hc exo_own) z)
        (fun c hc => by rw [upd_ne (at_ne e hc exo_own), upd_ne (ne_of_none hc hnd)]; exact hc) (fun c xs hc => by rw [upd_ne (at_ne e hc exo_tup), upd_ne (ne_of_none hc hnd)]; exact hc)
/-- Base.__init__(self, ..): nothing of it is told -/
theorem oinit_G {us : List Value} {Q : Value → Shared → Prop} (Fm : Fam B newId initId tl) (T : OexG X.K tl newId C) (I : Inv X pins σ H s) (e : H a = some (exo a C none)) (hl : us.length ≤ sizeLine) (h : ∀ s', Inv X pins σ H s' → Q .none s') :
    wpAny (model X.prog X.w) A (call (.builtin initId) (.ref a :: us)) Q E s := by
  obtain ⟨nm, q, N, bs, bm, sn, sub, ab, col, dd, k0, k1, k2, k3, k5, hC, hbm⟩ := T.cls
  obtain ⟨t1, ho⟩ := exo_at I.hok e
  obtain ⟨hp, g, d, t, os⟩ := s
  refine wpAny_call (PySem.HandSPX.init_base Fm.base (fun Y => refsT_contains Y bm hbm) (I.kIn _ _ hC) ho hl fun h' t2 k hx => ?_)
  have J := I.write (t' := t) (x := a) (e := a) (o := exo a C none) (by rw [e]; exact True.intro) (.inl rfl) k ⟨_, hx⟩ (exo_ok hx)
  have eu : upd H a (exo a C none) = H := by
    funext b
    by_cases hb : b = a
    · rw [hb, upd_same, e]
    · rw [upd_ne hb]
  rw [eu] at J
  exact h _ J
end
/-- WordError.__init__ is read off the class -/
structure BaseC (K : PySem.W.Frag) (Bc : Addr) (initId : String) : Prop where
  rd : PySem.W.readsIn K Bc (.type "type") = true
  ga : PySem.W.specialIn K (.ref Bc) "__getattribute__" = some (some (.builtin "type.__getattribute__"))
  at_ : PySem.W.findCls K (.ref Bc) (.type "type") "__init__" = some (.val (.builtin initId))
/-- Base.__init__(self, 'X'); self.f = x -/
def tIni (K : PySem.W.Frag) (tl : List Value) (newId : String) (ta : TA) : TE := fun σ H Q => ta σ H fun vs H1 => ∃ (a C : Addr) (ws : List V), vs = .ref a :: ws ∧ ws.length ≤ 1000 ∧ OexG K tl newId C ∧ H1 a = some (exo a C none) ∧ Q .non H1
def tOstG (K : PySem.W.Frag) (tl : List Value) (newId : String) (f : Str) (to te : TE) : TS := fun D σ H => te σ H fun y H1 => to σ H1 fun x H2 => ∃ a C : Addr, x = .ref a ∧ OexG K tl newId C ∧ PySem.W.findIn K (.ref C) f = some none ∧
  H2 a = some (exo a C none) ∧ ∀ dx, H2 dx = none → dx ≠ a → D.nx σ (upd (upd H2 dx (exd dx [(f, y)])) a (exo a C (some dx)))
def tMkG (C : Addr) (sp : Sp) (ta : TA) : St → Hp → XK → Prop := fun σ H Q => ta σ H fun vs H1 => vs.length ≤ 1000 ∧ ∀ a, H1 a = none → sp (.ref a :: vs) (upd H1 a (exo a C none))
  (fun v H2 => v = .non ∧ ∃ (d : Addr) (fs : List (Str × V)), H2 a = some (exo a C (some d)) ∧ H2 d = some (exd d fs) ∧ H1 d = none ∧ Q (.ref C) (some d) (upd (del H2 a) d (.xd fs))) (fun _ _ _ => False)
section
variable {X : Cx} {o e : Expr} {es : List Expr} {to te : TE} {ta : TA} {f : Str} {p p' p1 p2 pos : Pos} {B newId initId : String} {tl : List Value} {Bc : Addr} {bn : Str}
theorem pe_ini {pl : Sem Bool} (Fm : Fam B newId initId tl) (hb : BaseC X.K Bc initId) (hg : Gl X bn) (hm : X.mg bn = some (.ref Bc)) (ha : PA X (e :: es) ta) (hdb : (bn == ("__debug__" : Str)) = false)
    (hc : eval (.Call (.Attribute (.Name bn p1) "__init__" p2) (e :: es) [] pos) X.env = (do
      let ov ← eval (.Name bn p1) X.env
      standAt p2.atName
      let (f, first) ← holding [ov] (getMethod ov "__init__" pl)
      callWith pos f first (backTo pos (starEach (e :: es) X.env)) (backToKw pos (keywordEach [] X.env))) := by rfl)
    (he : starEach (e :: es) X.env = (false, eval e X.env) :: starEach es X.env := by rfl) (hpl : (backTo pos (starEach es X.env)).any (·.1) = false := by rfl) :
    PE X (.Call (.Attribute (.Name bn p1) "__init__" p2) (e :: es) [] pos) (tIni X.K tl newId ta) := by
  refine ⟨fun pins s σ H Q I h => ?_⟩
  refine PySem.W.methodCall_KW (ld_glob I hg hm ?_ hdb) hc
  refine PySem.W.method_cls I.kIn hb.ga (PySem.W.cls_value I.kIn hb.rd hb.at_ Fm.ini ?_)
  show wpAny _ _ (callWith pos (Value.builtin initId) [] (backTo pos (starEach (e :: es) X.env)) []) _ _ _
  refine PyProof.Rows.callWith_method1 (thn (ha.run pos pins _ σ H _ (I.tok _) h) fun us s1 ⟨vs, H1, I1, r1, a, C, ws, ev, hl, T, ea, q⟩ => ?_) he hpl
  subst ev
  cases r1 with
  | @cons _ u0 _ ur ra rw' =>
    obtain rfl : u0 = Value.ref a := ra
    have hlen : ur.length ≤ sizeLine := by
      rw [← Paired.length rw', sizeLine_eq]
      omega
    exact oinit_G Fm T I1 ea hlen fun s' J => ⟨.non, H1, J, rfl, q⟩
theorem ps_ostG (Fm : Fam B newId initId tl) (ho : PE X o to) (he : PE X e te) (hs : swapsWith e (some (.Attribute o f p')) pos.line X.env = pure false := by rfl) : PS X (.Assign [.Attribute o f p'] e pos) (tOstG X.K tl newId f to te) := by
  refine ⟨fun pins s σ H D I h => ?_⟩
  refine plainObj_wpAny_Assign_Attribute (thn (he.run pins s σ H _ I h) fun v s1 ⟨y, H1, I1, r1, q1⟩ => thn (ho.run pins s1 σ H1 _ I1 q1) fun u s2 ⟨x, H2, I2, r2, a, C, ex, T, hno, ea, q⟩ => ?_) hs
  subst ex
  obtain rfl : u = Value.ref a := r2
  exact ost_newG Fm T I2 ea hno r1 fun dx s' n ne J => ⟨σ, _, J, q dx n ne⟩
theorem pmk_G {CX : CXT} {x : Str} {C fI : Addr} {k : Nat} {fd : FuncData} {ps : List Str} {sp : Sp} (Fm : Fam B newId initId tl) (T : OexG X.K tl newId C) (iC : PySem.W.findIn X.K (.ref C) "__init__" = some (some (.ref fI))) (tI : PySem.W.typeIn X.K (.ref fI) = some (.type "function"))
    (F1 : FnOk X.prog X.w X.K X.mg X.base CX k fI fd ps sp) (hr : Room (k + 1) X.A) (hb : Binds X.K fd ps []) (hx : Passes CX X (fun _ _ _ => False)) (hg : Gl X x) (hm : X.mg x = some (.ref C)) (ha : PA X (e :: es) ta)
    (hdb : (x == ("__debug__" : Str)) = false := by decide) (he : starEach (e :: es) X.env = (false, eval e X.env) :: starEach es X.env := by rfl) (hpl : (backTo pos (starEach es X.env)).any (·.1) = false := by rfl) :
    PMk X (.Call (.Name x p) (e :: es) [] pos) (tMkG C sp ta) := by
  intro pins s σ H Q I h
  obtain ⟨nm, q, N, bs, bm, sn, sub, ab, col, dd, k0, k1, k2, k3, k5, hC, hbm⟩ := T.cls
  refine wpAny_Call_Name_kw (ld_glob I hg hm ?_ hdb)
  refine PySem.W.callWith_K (h₀ := X.base) I.ok.mod.kin T.kC (thn (ha.run pos pins s σ H _ I h) fun us s1 ⟨vs, H1, I1, r1, hz, q1⟩ => ⟨I1.kIn, ?_⟩) he hpl
  show wpAny _ _ (call (.ref C) us) _ _ _
  obtain ⟨hp, g, dr, tk, os⟩ := s1
  have hsz : hp.objs.size ≤ hp.objs.size + 1 := Nat.le_succ _
  have hn : H1 (hp.objs.size + 1) = none := I1.hok.fresh hsz
  have hq := q1 (hp.objs.size + 1) hn
  have kk : ∀ b o, hp.get? b = some o → ((hp.push (PySem.W.kdv_tup us)).push (PySem.HandSPX.excO C hp.objs.size)).get? b = some o := fun b o e => Heap.get?_push_of_some _ (Heap.get?_push_of_some _ e)
  have hget : ((hp.push (PySem.W.kdv_tup us)).push (PySem.HandSPX.excO C hp.objs.size)).get? (hp.objs.size + 1) = some (PySem.HandSPX.excO C hp.objs.size) := by heap_get
  have I2 : Inv X pins σ (upd H1 (hp.objs.size + 1) (exo (hp.objs.size + 1) C none)) ⟨(hp.push (PySem.W.kdv_tup us)).push (PySem.HandSPX.excO C hp.objs.size), g, dr, tk, os⟩ :=
    I1.laid (t' := tk) (a := hp.objs.size + 1) (o := exo (hp.objs.size + 1) C none) (h' := (hp.push (PySem.W.kdv_tup us)).push (PySem.HandSPX.excO C hp.objs.size)) kk hsz (exo_ok hget)
  have r2 : Vals (V.ref (hp.objs.size + 1) :: vs) (Value.ref (hp.objs.size + 1) :: us) := .cons rfl r1
  have hl : (Value.ref (hp.objs.size + 1) :: us).length = ps.length := by
    have e := r2.length
    rw [F1.len _ _ _ _ hq] at e
    exact e.symm
  have hus : us.length ≤ sizeLine := by
    rw [← Paired.length r1, sizeLine_eq]
    omega
  have hb1 := hb _ (Value.ref (hp.objs.size + 1) :: us) I2.kIn (by rw [List.append_nil]; exact hl)
  rw [List.append_nil] at hb1
  refine wpAny_call (PySem.HandSPX.call_own Fm.base (fun Y => refsT_contains Y bm hbm) (I1.kIn _ _ hC) (PySem.W.looks_findIn I1.kIn iC) (fun self => PySem.W.bind_fn I1.kIn self tI) hus
    (codeAny_mono (F1.run _ X.stack _ _ ⟨Value.ref (hp.objs.size + 1) :: us, []⟩ (Value.ref (hp.objs.size + 1) :: us) _ _ (fun _ _ _ => False) (hr.make C us []) (I2.env0.make C us []) hb1 r2 hq) fun r s' hq' => ?_))
  cases r with
  | error er => exact hx pins σ _ _ er s' I2 hq'
  | ok fl =>
    cases fl with
    | ret u =>
      obtain ⟨v, H2, os2, bare2, un2, hok2, rv, ev, d, fs, ea, ed, hd1, q2⟩ := hq'
      subst ev
      obtain ⟨h2, g2, d2, t2, os'⟩ := s'
      exact ⟨rv, mk_end (raises_own T.exC T.tyC) I1 hsz kk un2 hok2 os2 bare2 ea ed hd1 q2⟩
    | next => exact False.elim hq'
    | brk => exact False.elim hq'
    | cont => exact False.elim hq'
end
end L2.WD
/-! The data layer, part 12: raise, try. -/
namespace L2.WD
open PySem PySem.Spec PySem.Calls PyProof.Rows

theorem passesF {X : Cx} : Passes (L2.CX X.prog X.w) X (fun _ _ _ => False) := fun _ _ _ _ _ _ _ h => by
  obtain ⟨_, _, _, _, _, _, _, _, _, _, _, _, z⟩ := h
  exact z.elim
/-! ### the __init__ of an exception with one field -/
def spXI (C : Addr) (f : Str) : Sp := fun vs H Q _ => ∃ (a : Addr) (y : V), vs = [.ref a, y] ∧ H a = some (exo a C none) ∧ ∀ dx, H dx = none → dx ≠ a → Q .non (upd (upd H dx (exd dx [(f, y)])) a (exo a C (some dx)))
section
variable {P : Program} {w : World} {e : Ev} {base : Heap} {B newId initId : String} {tl : List Value}
theorem exInit_ok {C Bc fI : Addr} {k : Nat} {bn qual m f x : Str} {params : Arguments} {scope : Scope} {fd : FuncData} {p1 p2 p3 p4 p5 p6 q1 q2 q3 q4 : Pos} {j : Nat}
    (F : FunD e.K "__init__" qual params [.Expr (.Call (.Attribute (.Name bn p1) "__init__" p2) [.Name "self" p3, .Constant (.str m) j p4] [] p5) p6, .Assign [.Attribute (.Name "self" q1) f q2] (.Name x q3) q4] scope [] [] fI fd)
    (S : FnScope ["self", x] ["self", x] scope) (h1 : scope.names.lookup ("self" : Str) = some .local) (h2 : scope.names.lookup x = some .local) (hg : scope.names.lookup bn = some .globalImplicit)
    (Fm : Fam B newId initId tl) (hB : BaseC e.K Bc initId) (hm : e.mg bn = some (.ref Bc)) (T : OexG e.K tl newId C) (hno : PySem.W.findIn e.K (.ref C) f = some none)
    (hx1 : (x == ("__debug__" : Str)) = false) (hx2 : (x == ("__classdict__" : Str)) = false) (hb1 : (bn == ("__debug__" : Str)) = false) {pl : Env → Sem Bool}
    (hc : ∀ env : Env, eval (.Call (.Attribute (.Name bn p1) "__init__" p2) [.Name "self" p3, .Constant (.str m) j p4] [] p5) env = (do
      let ov ← eval (.Name bn p1) env
      standAt p2.atName
      let (f, first) ← holding [ov] (getMethod ov "__init__" (pl env))
      callWith p5 f first (backTo p5 (starEach [.Name "self" p3, .Constant (.str m) j p4] env)) (backToKw p5 (keywordEach [] env))) := by intro _; rfl) :
    FnOk P w e.K e.mg base (L2.CX P w) (k + 1) fI fd ["self", x] (spXI C f) := by
  refine F.ok S (fun vs H Q E ⟨_, _, h, _⟩ => by rw [h]; rfl) fun cdv A outer s H vs Q E hr ⟨a, y, ev, ea, q⟩ => ?_
  subst ev
  refine ⟨_, pss_cons (ps_expr (pe_ini (pl := pl _) Fm hB hg hm (pa_cons (pe_var (i := 0) rfl (.inl h1) (by decide) (by decide)) (pa_cons pe_str pa_nil)) hb1 (hc _))) (pss_one (ps_ostG Fm (pe_var (i := 0) rfl (.inl h1) (by decide) (by decide)) (pe_var (i := 1) rfl (.inl h2) hx1 hx2))), ?_⟩
  refine ⟨.ref a, rfl, a, C, [.str m], rfl, by simp, T, ea, ?_⟩
  refine ⟨y, rfl, .ref a, rfl, a, C, rfl, T, hno, ea, fun dx n ne => q dx n ne⟩
end
/-! ### raise -/
def raiseS1 (c : Nat) (f : Str) (fd : Mo D) : So := bindS fd fun d ρ => .exc ρ c [(f, d)]
def raiseS0 (c : Nat) : So := fun ρ => .exc ρ c []
section
variable {X : Cx} {e : Ev} {W : WX} {B newId initId : String} {tl bmB : List Value}
theorem ss_raise0 {c : Nat} {x m : Str} {j : Nat} {p p2 pos pos2 : Pos} (C : EC X e W) (cm : X.calm = true) (F : ExcBaseFacts B newId initId bmB) (q : PySem.W.excIn e.K (e.ca c) bmB newId = true) (kC : PySem.W.keepIn e.K (.ref (e.ca c)) = true)
    (h1 : PySem.W.subIn e.K (.ref (e.ca c)) (.type "BaseException") = some true) (h2 : PySem.W.typeIn e.K (.ref (e.ca c)) = some (.type "type")) (hg : Gl X x) (gC : e.mg x = some (.ref (e.ca c))) (hdb : (x == ("__debug__" : Str)) = false := by decide) :
    PS X (.Raise (some (.Call (.Name x p) [.Constant (.str m) j p2] [] pos)) none pos2) (tS e W (raiseS0 c)) := by
  have r : Raises X (.ref (e.ca c)) := raises_own (by rw [C.K]; exact h1) (by rw [C.K]; exact h2)
  exact (ps_raise cm C.tk (pmk_own F (by rw [C.K]; exact q) (by rw [C.mg]; exact gC) (by rw [C.K]; exact kC) r hg hdb)).imp fun En σ H ⟨Fo, G, ρ, R, p⟩ => p G σ H _ _ (L2.Same.refl _) (KeepS.refl _ _) R .e0
theorem ss_raise1 {c : Nat} {x f px : Str} {a : Expr} {p pos pos2 : Pos} {fI : Addr} {k : Nat} {fn : FuncData} {fd : Mo D} (C : EC X e W) (cm : X.calm = true) (Fm : Fam B newId initId tl) (T : OexG e.K tl newId (e.ca c)) (iC : PySem.W.findIn e.K (.ref (e.ca c)) "__init__" = some (some (.ref fI)))
    (tI : PySem.W.typeIn e.K (.ref fI) = some (.type "function")) (F1 : FnOk X.prog X.w X.K X.mg X.base (L2.CX X.prog X.w) k fI fn ["self", px] (spXI (e.ca c) f)) (hr : Room (k + 1) X.A) (hb : Binds X.K fn ["self", px] []) (hg : Gl X x) (gC : e.mg x = some (.ref (e.ca c)))
    (ha : PE X a (tD e W fd)) (hdb : (x == ("__debug__" : Str)) = false := by decide) (he : starEach [a] X.env = (false, eval a X.env) :: starEach [] X.env := by rfl) :
    PS X (.Raise (some (.Call (.Name x p) [a] [] pos)) none pos2) (tS e W (raiseS1 c f fd)) := by
  refine (ps_raise cm C.tk (pmk_G Fm (by rw [C.K]; exact T) (by rw [C.K]; exact iC) (by rw [C.K]; exact tI) F1 hr hb passesF hg (by rw [C.mg]; exact gC) (pa_cons ha pa_nil he) hdb he rfl)).imp fun En σ H ⟨Fo, G, ρ, R, p⟩ => ?_
  refine tG.mono (PostS.bind R p) fun y H1 ⟨G1, ρ1, d, g1, R1, r1, _, p1⟩ => ?_
  refine ⟨by simp, fun a na => ⟨a, y, rfl, upd_same, fun dx ndx nda => ⟨rfl, dx, _, upd_same, by rw [upd_ne nda, upd_same], by rw [upd_ne nda] at ndx; exact ndx, ?_⟩⟩⟩
  have ndx' : H1 dx = none := by rw [upd_ne nda] at ndx; exact ndx
  have eu : upd (del (upd (upd (upd H1 a (exo a (e.ca c) none)) dx (exd dx [(f, y)])) a (exo a (e.ca c) (some dx))) a) dx (.xd [(f, y)]) = upd H1 dx (.xd [(f, y)]) := by
    funext b
    by_cases hb1 : b = dx
    · rw [hb1, upd_same, upd_same]
    · rw [upd_ne hb1, upd_ne hb1]
      by_cases hb2 : b = a
      · rw [hb2, del_same, na]
      · rw [del_ne hb2, upd_ne hb2, upd_ne hb1, upd_ne hb2]
  rw [eu]
  have sg := same_upd (o := HO.xd [(f, y)]) (R1.gnone ndx')
  exact p1 _ σ _ _ _ sg (KeepS.refl _ _) (R1.lay2 ndx') (.e1 upd_same (.cons (DR.mono sg r1) .nil))
end
/-! ### try -/
/-- a handler: which classes it catches, its name's slot, its suite -/
structure Hd where
  cat : Nat → Option Bool
  ix : Nat
  su : So
def goneS (i : Nat) : Out → Out
  | .nx ρ => .nx (ρ.set i .no)
  | .bk ρ => .bk (ρ.set i .no)
  | .ct ρ => .ct (ρ.set i .no)
  | .rt ρ s => .rt ρ s
  | _ => .bad
def handle : List Hd → List Sl → Nat → List (Str × D) → Out
  | [], ρ, c, fs => .exc ρ c fs
  | h :: hs, ρ, c, fs => match h.cat c with
    | some true => if free ρ h.ix = true then goneS h.ix (h.su (ρ.set h.ix (.fz (.exc c fs)))) else .bad
    | some false => handle hs ρ c fs
    | none => .bad
def tryS (b : So) (hs : List Hd) : So := fun ρ => match b ρ with
  | .exc ρ1 c fs => handle hs ρ1 c fs
  | o => o
/-- what the body's exceptions are asked -/
def wT (e : Ev) (hs : List Hd) (Wout : WX) (D : Ends) : WX := fun cls d σ H => ∃ (Fo G : Hp) (ρ : List Sl) (c : Nat) (fs : List (Str × L2.WD.D)), Rel e Fo G σ H ρ ∧ ExcR e G c fs cls d ∧ PostS e Wout Fo G σ ρ (handle hs ρ c fs) D
section
variable {e : Ev} {Fo G H : Hp} {σ : St} {ρ : List Sl} {i : Nat}
theorem Rel.gone (R : Rel e Fo G σ H ρ) : Rel e Fo G (σ.set i none) H (ρ.set i .no) := by
  refine ⟨R.gh, R.fh, R.fg, R.sl.set .no i, fun j k b s t h1 h2 o1 o2 e1 e2 => ?_⟩
  have ne : ∀ {n : Nat} {u : Sl}, (ρ.set i .no)[n]? = some u → u.owned = true → n ≠ i := fun {n u} h o z => by
    subst z
    by_cases c : n < ρ.length
    · rw [List.getElem?_set_self c] at h
      cases h
      cases o
    · rw [List.getElem?_eq_none (by simpa using c)] at h
      cases h
  have n1 := ne h1 o1
  have n2 := ne h2 o2
  rw [List.getElem?_set_ne (Ne.symm n1)] at h1 e1
  rw [List.getElem?_set_ne (Ne.symm n2)] at h2 e2
  exact R.ap j k b s t h1 h2 o1 o2 e1 e2
theorem free_keep2 {s : Sl} {o : Option V} {σ' : St} {ρ' : List Sl} {t : Sl} (h : free ρ i = true) (k : KeepS (σ.set i o) (ρ.set i s) σ' ρ') : KeepS σ ρ (σ'.set i none) (ρ'.set i .no) := fun j u hj hm => by
  have ji : j ≠ i := fun z => by
    subst z
    unfold free at h
    simp only [hj, hm] at h
    cases h
  obtain ⟨e1, s1, h1, m1⟩ := k j u (by rw [List.getElem?_set_ne (Ne.symm ji)]; exact hj) hm
  rw [List.getElem?_set_ne (Ne.symm ji)] at e1
  exact ⟨by rw [List.getElem?_set_ne (Ne.symm ji)]; exact e1, s1, by rw [List.getElem?_set_ne (Ne.symm ji)]; exact h1, m1⟩
theorem free_keep3 {s : Sl} {o : Option V} {σ' : St} {ρ' : List Sl} (h : free ρ i = true) (k : KeepS (σ.set i o) (ρ.set i s) σ' ρ') : KeepS σ ρ σ' ρ' := fun j u hj hm => by
  have ji : j ≠ i := fun z => by
    subst z
    unfold free at h
    simp only [hj, hm] at h
    cases h
  obtain ⟨e1, s1, h1, m1⟩ := k j u (by rw [List.getElem?_set_ne (Ne.symm ji)]; exact hj) hm
  rw [List.getElem?_set_ne (Ne.symm ji)] at e1
  exact ⟨e1, s1, h1, m1⟩
end
section
variable {X : Cx} {pins : List (Addr × Obj)} {σ : St} {H : Hp} {s : Shared}
/-- an except suite, the exception tracked -/
theorem Inv.suiteT {a C : Addr} {d : Option Addr} {oe : Obj} {vs : Array Value} (I : Inv X pins σ H s) (ha : s.heap.get? a = some oe) (hc : oe.cls = .ref C) (hdd : oe.dict = d) (hd : oe.data = .fields vs) (na : H a = none) (nL : a ≠ X.env.locals) (n0 : X.s_0.heap.get? a = none) (np : ∀ p ∈ X.pn ++ pins, p.1 ≠ a) :
    Inv (X.suite a (X.pn ++ pins)) [] σ (upd H a (exh C a d)) s := by
  refine ⟨I.ok.suite _ _, I.os, I.bare, ⟨fun b o q n f x => I.base.keep b o q n f x, fun b o q n f x => I.base.slot b o q n f x, fun b o q n x => ?_, fun b o q x => I.base.there b o q x, fun b xs q => ?_, fun b o xs q => ?_, fun b ps q => ?_⟩, I.loc, I.cell, ?_, fun x c q => ?_, fun p hp => ?_, fun b o q => ?_, I.len⟩
  · have hb : b ≠ a := fun z => by rw [z, n0] at q; cases q
    rw [upd_ne hb]
    exact I.base.free b o q n x
  · have hb : b ≠ a := fun z => by have := I.base.tups b xs q; rw [z, na] at this; cases this
    rw [upd_ne hb]
    exact I.base.tups b xs q
  · have hb : b ≠ a := fun z => by have := I.base.frzs b o xs q; rw [z, na] at this; cases this
    rw [upd_ne hb]
    exact I.base.frzs b o xs q
  · obtain ⟨more, h1⟩ := I.base.tbls b ps q
    have hb : b ≠ a := fun z => by rw [z, na] at h1; cases h1
    exact ⟨more, by rw [upd_ne hb]; exact h1⟩
  · show (upd H a (exh C a d)) X.env.locals = none
    rw [upd_ne (Ne.symm nL)]
    exact I.free
  · have hb : c ≠ a := fun z => by
      obtain ⟨v, o1, h1⟩ := I.cell x c q
      rw [z, ha] at h1
      have h2 := Option.some.inj h1.1
      subst h2
      have h3 := h1.2
      rw [hd] at h3
      cases h3
    rw [upd_ne hb]
    exact I.freeC x c q
  · have hp' : p ∈ X.pn ++ pins := by rw [List.append_nil] at hp; exact hp
    obtain ⟨h1, h2, h3, h4, h5⟩ := I.pin p hp'
    exact ⟨h1, by rw [upd_ne (np p hp')]; exact h2, h3, h4, h5⟩
  · by_cases hb : b = a
    · subst hb
      rw [upd_same] at q
      cases q
      exact exh_ok ha hc hdd hd
    · rw [upd_ne hb] at q
      exact (I.hok b o q).stay (fun c v _ z => z) (fun c hc => by rw [upd_ne (ne_of_none hc na)]; exact hc) (fun c xs hc => by rw [upd_ne (ne_of_none hc na)]; exact hc)
theorem Inv.unsuiteT {a : Addr} {pn' : List (Addr × Obj)} (I : Inv (X.suite a (X.pn ++ pins)) pn' σ H s) (ok : X.Ok) : Inv X pins σ H s :=
  ⟨ok, I.os, I.bare, I.base, I.loc, I.cell, I.free, I.freeC, fun p hp => I.pin p (List.mem_append_left _ hp), I.hok, I.len⟩
end

/-- a handler's facts: its class's name, value -/
structure HdOk (X : Cx) (e : Ev) (x n : Str) (suite : List Stmt) (h : Hd) (c : Value) : Prop where
  nm : Names X x c
  ca : ∀ k b, h.cat k = some b → PySem.W.exmOne e.K (.ref (e.ca k)) c = some b
  ix : X.N[h.ix]? = some n
  lo : X.env.kindOf n = some .local
  ne : ∃ b0 r, suite = b0 :: r
  su : ∀ (a : Addr) (pn : List (Addr × Obj)), PSs (X.suite a pn) suite (tS e WF h.su)
inductive HdsOk (X : Cx) (e : Ev) : List ExceptHandler → List Hd → Prop
  | nil : HdsOk X e [] []
  | cons {x n : Str} {np pos : Pos} {suite : List Stmt} {h : Hd} {c : Value} {es : List ExceptHandler} {hs : List Hd} : HdOk X e x n suite h c → HdsOk X e es hs → HdsOk X e (.ExceptHandler (some (.Name x np)) (some n) suite pos :: es) (h :: hs)
theorem EC.suite {X : Cx} {e : Ev} {W : WX} (C : EC X e W) (a : Addr) (pn : List (Addr × Obj)) : EC (X.suite a pn) e WF := ⟨C.K, C.mg, C.nd, takes0, PassesOwn.never⟩
section
variable {X : Cx} {e : Ev} {W : WX} {pins : List (Addr × Obj)} {a : Addr} {B : Heap}
theorem handle_ok (C : EC X e W) (hs : X.stack = X.env :: X.outer) (hf : X.env.frame = some X.env.locals) (hex : X.ex = []) (ok : X.Ok) {σ : St} {H Fo G : Hp} {ρ : List Sl} {c : Nat} {fs : List (Str × D)} {d : Option Addr} {sI s' : Shared} {h3 : Heap} {En : Ends}
    (J : Inv X pins σ H sI) (nb : ∀ b o, sI.heap.get? b = some o → b ∉ frs X.stack → B.get? b = some o) (na : H a = none) (os : s'.os = sI.os) (ag : AllBare s'.gens) (R : Rel e Fo G σ H ρ) (xr : ExcR e G c fs (.ref (e.ca c)) d) (Bn : B.get? a = none) :
    ∀ {es : List ExceptHandler} {hds : List Hd} {h3 : Heap}, HdsOk X e es hds → sI.heap.UpToSlots h3 → HandSPX.FlyingZ B (X.env :: X.outer) a (Zc (.ref (e.ca c)) d) h3 → PostS e W Fo G σ ρ (handle hds ρ c fs) En →
    wpAny (model X.prog X.w) X.A (handleBy (.ref a) X.env es) (SP X pins En) X.xe { s' with heap := h3 } := by
  intro es hds h3 ho
  induction ho generalizing h3 with
  | nil =>
    intro up fl3 p
    refine wpAny_handleBy_nil ?_
    obtain ⟨k1, k2, k3, oe, vs, T, oT, ts', he, hz, hd, h1, hr⟩ := id fl3
    unfold PySem.passOn
    refine wpAny_bind (wpAny_field he hd h1 ?_)
    rw [if_neg (show ¬ ((Value.ref T == Value.none) = true) from by simp)]
    have fin : wpAny (model X.prog X.w) X.A (setFlight (.ref a) X.env.frame) (fun _ s4 => wpAny (model X.prog X.w) X.A (throw (.ref a) : Sem Flow) (SP X pins En) X.xe s4) X.xe { s' with heap := h3 } := by
      rw [hf]
      refine HandSPX.setFlight_upZ fl3 fun h4 hh4 up4 => wpAny_throw (C.tk _ _ ?_)
      exact ⟨a, B, sI, pins, σ, H, _, d, rfl, J, nb, up.trans up4, .inr (.inr (by rw [hs]; exact hh4)), na, os, ag, p G σ H _ d (L2.Same.refl _) (KeepS.refl _ _) R xr⟩
    first
      | exact wpAny_bind (wpAny_pure (wpAny_bind fin))
      | exact wpAny_bind fin
  | @cons x n npos pos suite h cv es hds Hh Hs ih =>
    intro up fl3 p
    have J3 : Inv X pins σ H { s' with heap := h3 } := J.landed nb fl3.1 up os ag
    obtain ⟨oe3, vs3, he3, hz3, hd3⟩ := fl3.there
    have notFr : ∀ {h : Heap} {o : Obj} {vs : Array Value}, h.FunFrames B (X.env :: X.outer) → h.get? a = some o → o.data = .fields vs → a ∉ frs (X.env :: X.outer) := fun {h o vs} ff e dd hm => by
      obtain ⟨_, o', e', hnf⟩ := ff.mem hm
      rw [e] at e'; cases e'
      exact hnf _ dd
    have nfr := notFr fl3.2.2.1 he3 hd3
    have nL : a ≠ X.env.locals := fun z => nfr (List.mem_filterMap.mpr ⟨X.env, List.mem_cons_self, by rw [hf, z]⟩)
    have nF : a ∉ X.fs := fun hm => by
      obtain ⟨e, he, q⟩ := List.mem_filterMap.mp hm
      exact nfr (List.mem_filterMap.mpr ⟨e, List.mem_cons_of_mem _ he, q⟩)
    have n0 : X.s_0.heap.get? a = none := by
      cases q : X.s_0.heap.get? a with
      | none => rfl
      | some o =>
        obtain ⟨o', e1⟩ := J.base.there a o q (by rw [hex]; exact fun z => nomatch z)
        have := nb a o' e1 (by rw [hs]; exact nfr)
        rw [Bn] at this
        cases this
    have np : ∀ p ∈ X.pn ++ pins, p.1 ≠ a := fun p hp z => by
      obtain ⟨h1, h2, h3, h4, h5⟩ := J.pin p hp
      have := nb p.1 p.2 h1 (by rw [z, hs]; exact nfr)
      rw [z, Bn] at this
      cases this
    have S3 := J3.suite he3 hd3 na nL nF
    obtain ⟨b0, r, hsu⟩ := Hh.ne
    refine wpAny_handleBy_cons (codeAny_handlers_test ?_) (by intro q; cases q)
    have LT : PySem.W.Looks (model X.prog X.w) h3 (typeOf (.ref a)) (.ref (e.ca c)) := fun A Q E s k q => wpAny_typeOf_ref (k _ _ he3) (by rw [hz3.1]; exact q)
    have test : ∀ {Q : Value → Shared → Prop} {E : Value → Shared → Prop}, Q cv { s' with heap := h3 } → wpAny (model X.prog X.w) (X.A.mark (some (.ref a))) (eval (.Name x npos) X.env) Q E { s' with heap := h3 } := fun {Q E} q => by
      obtain ⟨hg, hdbg, hm | ⟨hm, hv, hnn⟩⟩ := Hh.nm
      · exact ld_glob (X := X.suite a ((a, oe3) :: (X.pn ++ pins))) S3 hg hm q hdbg
      · exact ld_blt (X := X.suite a ((a, oe3) :: (X.pn ++ pins))) S3 hg hm hv q hnn hdbg
    unfold handle at p
    cases hcat : h.cat c with
    | none => simp only [hcat] at p; exact p.elim
    | some b =>
      simp only [hcat] at p
      have hb1 := Hh.ca c b hcat
      rw [← C.K] at hb1
      have LM := PySem.W.exm_one (M := model X.prog X.w) (J3.kIn) LT hb1
      refine test (LM.here ?_)
      cases b with
      | false => exact ih up fl3 p
      | true =>
        simp only at p
        by_cases fr : free ρ h.ix = true
        case neg =>
          rw [if_neg fr] at p
          exact p.elim
        rw [if_pos fr] at p
        rw [hsu]
        refine codeAny_handlers_suite_as ?_
        refine HandSPX.lands_againZ fl3 fun h4 fl4 up4 => ?_
        have J4 : Inv X pins σ H { s' with heap := h4 } := J.landed nb fl4.1 (up.trans up4) os ag
        obtain ⟨oe4, vs4, he4, hz4, hd4⟩ := fl4.there
        have S4 := Inv.suiteT (d := d) J4 he4 hz4.1 hz4.2 hd4 na nL n0 np
        refine store_ok (X := X.suite a (X.pn ++ pins)) (v := .ref a) S4 C.nd Hh.ix (.inl Hh.lo) rfl (fun s5 S5 => ?_) (.inr Hh.lo)
        have gn : G a = none := R.gnone na
        have R2 := R.lay2 (o := exh (e.ca c) a d) na
        have dr : DR e (upd G a (exh (e.ca c) a d)) (.ref a) (.exc c fs) := by
          cases xr with
          | e0 => exact .exc0 upd_same
          | e1 h1 h2 => exact .exc1 upd_same (same_upd gn _ _ h1) (h2.mono (same_upd gn))
        have R3 := R2.put (i := h.ix) (Val.fz dr)
        have post : PostS e WF Fo (upd G a (exh (e.ca c) a d)) (σ.set h.ix (some (.ref a))) (ρ.set h.ix (.fz (.exc c fs))) (h.su (ρ.set h.ix (.fz (.exc c fs)))) { nx := fun σ' H' => En.nx (σ'.set h.ix none) H', rt := En.rt, bk := fun σ' H' => En.bk (σ'.set h.ix none) H', ct := fun σ' H' => En.ct (σ'.set h.ix none) H' } := by
          have sg := same_upd (o := exh (e.ca c) a d) gn
          cases q : h.su (ρ.set h.ix (.fz (.exc c fs))) with
          | nx ρ2 =>
            rw [q] at p
            exact fun G' σ' H' g k R' => p G' _ H' (sg.trans g) (free_keep2 (t := .no) fr k) R'.gone
          | bk ρ2 =>
            rw [q] at p
            exact fun G' σ' H' g k R' => p G' _ H' (sg.trans g) (free_keep2 (t := .no) fr k) R'.gone
          | ct ρ2 =>
            rw [q] at p
            exact fun G' σ' H' g k R' => p G' _ H' (sg.trans g) (free_keep2 (t := .no) fr k) R'.gone
          | rt ρ2 s =>
            rw [q] at p
            exact fun G' σ' H' v g k R' hv => p G' σ' H' v (sg.trans g) (free_keep3 fr k) R' hv
          | exc ρ2 c2 fs2 => rw [q] at p; exact p.elim
          | bad => rw [q] at p; exact p.elim
        refine wpAny_mono (((by rw [← hsu]; exact Hh.su a (X.pn ++ pins)) : PSs (X.suite a (X.pn ++ pins)) (b0 :: r) (tS e WF h.su)).run [] s5 _ _ _ S5 ⟨Fo, _, _, R3, post⟩) (fun f s6 hsp => ?_) (fun _ _ z => False.elim z)
        have end_ : ∀ {σ6 : St} {H6 : Hp} {Q : Shared → Prop}, Inv (X.suite a (X.pn ++ pins)) [] σ6 H6 s6 → (∀ s7, Inv X pins (σ6.set h.ix none) H6 s7 → Q s7) →
            wpAny (model X.prog X.w) X.A (do bindName X.env n .none; unbindBehindTheSuite X.env n pos) (fun _ s7 => Q s7) X.xe s6 := fun {σ6 H6 Q} S6 hq => gone_ok (Inv.unsuiteT S6 ok) C.nd Hh.ix Hh.lo hq
        cases f with
        | next =>
          obtain ⟨σ6, H6, S6, q6⟩ := hsp
          exact end_ S6 fun s7 J7 => ⟨_, _, J7, q6⟩
        | brk =>
          obtain ⟨σ6, H6, S6, q6⟩ := hsp
          exact end_ S6 fun s7 J7 => ⟨_, _, J7, q6⟩
        | cont =>
          obtain ⟨σ6, H6, S6, q6⟩ := hsp
          exact end_ S6 fun s7 J7 => ⟨_, _, J7, q6⟩
        | ret u =>
          obtain ⟨v6, σ6, H6, S6, r6, q6⟩ := hsp
          exact end_ S6 fun s7 J7 => ⟨_, _, _, J7, r6, q6⟩
theorem sky_none {B : Heap} {l : List Env} {a : Addr} {Z : Obj → Prop} {L : Addr} {h : Heap} (x : Sky B l a Z L h) : B.get? a = none := by
  rcases x with ⟨_, h, _⟩ | ⟨_, h, _⟩ | ⟨_, h, _⟩ <;> exact h
theorem ss_try {body : List Stmt} {es : List ExceptHandler} {hds : List Hd} {b : So} {pos : Pos} {h0 : ExceptHandler} (C : EC X e W) (hs : X.stack = X.env :: X.outer) (hf : X.env.frame = some X.env.locals) (hex : X.ex = [])
    (hb : ∀ (W' : WX) (pn : List (Addr × Obj)) (xe : Value → Shared → Prop), EC (X.tr pn xe) e W' → PSs (X.tr pn xe) body (tS e W' b)) (ho : HdsOk X e (h0 :: es) hds) :
    PS X (.Try body (h0 :: es) [] [] pos) (tS e W (tryS b hds)) := by
  refine ⟨fun pins s σ H En I hw => ?_⟩
  obtain ⟨Fo0, G0, ρ0, R0, p0⟩ := hw
  have ok := I.ok
  have hfr : X.A.frames = some (X.env :: X.outer) := by rw [ok.frames, hs]
  have p1 : PostS e (wT e hds W En) Fo0 G0 σ ρ0 (b ρ0) En := by
    unfold tryS at p0
    cases q : b ρ0 with
    | exc ρ1 c fs =>
      rw [q] at p0
      exact fun G' σ' H' cls od g k R' x => ⟨Fo0, G', ρ1, c, fs, R', x, p0.from g k⟩
    | nx ρ1 => rw [q] at p0; exact p0
    | bk ρ1 => rw [q] at p0; exact p0
    | ct ρ1 => rw [q] at p0; exact p0
    | rt ρ1 s => rw [q] at p0; exact p0
    | bad => rw [q] at p0; exact p0
  refine wpAny_Try_except ?_
  refine wpAny_mono ((hb (wT e hds W En) (X.pn ++ pins) (fun e s₁ => wpAny (model X.prog X.w) X.A (noteFrame e X.env) (fun _ s₂ => wpAny (model X.prog X.w) X.A (setFlight e none) (fun _ s₃ =>
    wpAny (model X.prog X.w) X.A (handleBy e X.env (h0 :: es)) (SP X pins En) X.xe s₃) X.xe s₂) X.xe s₁) ⟨C.K, C.mg, C.nd, fun u s' xx => ?_, PassesOwn.looking⟩).run [] s σ H En (I.toTry _) ⟨Fo0, G0, ρ0, R0, p1⟩) (fun f s1 hsp => ?_) (fun e s1 he => he)
  · obtain ⟨a, B, sI, pins', σ', H', cls, d, rfl, J', nb, up, sky, na, os, ag, Fo, G, ρ, c, fs, R, xr, p⟩ := xx
    have J : Inv X pins σ' H' sI := J'.ofTry ok
    have ecl : cls = .ref (e.ca c) := by cases xr <;> rfl
    subst ecl
    have sky' : Sky B (X.env :: X.outer) a (Zc (.ref (e.ca c)) d) X.env.locals s'.heap := by rw [← hs]; exact sky
    show wpAny (model X.prog X.w) X.A (noteFrame (.ref a) X.env) _ _ _
    refine Sky.land Zc.steady hfr hf sky' fun h3 fl3 up3 => ?_
    exact handle_ok (h3 := h3) C hs hf hex ok J nb na os ag R xr (sky_none sky') ho (up.trans up3) fl3 p
  · cases f with
    | next =>
      obtain ⟨σ', H', J', q⟩ := hsp
      exact wpAny_execs_nil ⟨σ', H', J'.ofTry ok, q⟩
    | brk =>
      obtain ⟨σ', H', J', q⟩ := hsp
      exact ⟨σ', H', J'.ofTry ok, q⟩
    | cont =>
      obtain ⟨σ', H', J', q⟩ := hsp
      exact ⟨σ', H', J'.ofTry ok, q⟩
    | ret u =>
      obtain ⟨v, σ', H', J', r, q⟩ := hsp
      exact ⟨v, σ', H', J'.ofTry ok, r, q⟩
end
end L2.WD
/-! The data layer, part 13: enumerate over any sequence. -/
namespace PySem
open Sem (wp)
theorem wd_meets_enum1 {v : Value} {o : Obj} {H : Heap → Prop} (B : Begins v o H) :
    Meets (Builtin.«enumerate.__new__» ⟨[.type "enumerate", v], []⟩) (fun _ R s => H s.heap ∧
      R (.ok (.ret (.ref (s.heap.push o).objs.size))) { s with heap := (s.heap.push o).push { cls := .type "enumerate", data := .fields #[.none, .bool false, .ref s.heap.objs.size, rawInt 0, .none, .none] } }) :=
  .of_wp fun prog w A R s h => by
    obtain ⟨hp, g, d, tk, os⟩ := s; obtain ⟨h1, h⟩ := h
    have hsub := sub_enumerate
    have q1 : ∀ {A' : Around} {E : Value → Shared → Prop} {Q : Value → Shared → Prop}, Q (.ref hp.objs.size) ⟨hp.push o, g, d, tk, os⟩ → wpAny (model prog w) A' (pyIter v) Q E ⟨hp, g, d, tk, os⟩ :=
      fun q => B.iter prog w _ _ ⟨hp, g, d, tk, os⟩ _ h1 q
    wp_walk using q1
    refine wpAny_stack_any fun st => wpAny_pure ?_
    split
    · rename_i c _ _ _ _ _
      cases (c == Value.type "enumerate")
      · wp_walk using q1
        exact ⟨_, rfl, h⟩
      · wp_walk using q1
        exact ⟨_, rfl, h⟩
    · wp_walk using q1
      exact ⟨_, rfl, h⟩
section
variable {prog : Program} {w : World} {A : Around} {E : Value → Shared → Prop} {s : Shared}
theorem wd_enum_begins {v : Value} {o : Obj} {H : Heap → Prop} {Q : Value → Shared → Prop} (B : Begins v o H) (h1 : H s.heap)
    (h : ∀ h', IsEnum h' (s.heap.objs.size + 1) s.heap.objs.size 0 .none → h'.get? s.heap.objs.size = some o → h'.objs.size = s.heap.objs.size + 2 →
      (∀ b o, s.heap.get? b = some o → h'.get? b = some o) → Q (.ref (s.heap.objs.size + 1)) { s with heap := h' }) :
    wpAny (model prog w) A (call (.type "enumerate") [v]) Q E s := by
  refine callType_new F.called_enumerate (by decide) (F.typeCall_enumerate_1 _) (F.newCall_enumerate_1 _) (fun obj => F.args_object_init_2 obj _) F.entry_enumerate_new
    (wd_meets_enum1 B) ⟨h1, ?_⟩
  have hz : (s.heap.push o).objs.size = s.heap.objs.size + 1 := Heap.size_push ..
  show _ ∧ _
  rw [hz]
  have he : IsEnum ((s.heap.push o).push { cls := .type "enumerate", data := .fields #[.none, .bool false, .ref s.heap.objs.size, rawInt 0, .none, .none] }) (s.heap.objs.size + 1) s.heap.objs.size 0 .none := by
    have := Heap.get?_push_size (s.heap.push o) (o := { cls := .type "enumerate", data := .fields #[.none, .bool false, .ref s.heap.objs.size, rawInt 0, .none, .none] }) rfl
    rw [hz] at this; exact this
  refine ⟨⟨_, he, rfl⟩, h _ he (Heap.get?_push_of_some _ (Heap.get?_push_size _ B.free)) (by rw [Heap.size_push, hz]) fun b o x => Heap.get?_push_of_some _ (Heap.get?_push_of_some _ x)⟩
end
end PySem
namespace L2.WD
open PySem PySem.Spec PySem.Calls PyProof.Rows
/-- the tuple at a, each item in a new pair -/
def Iet (K : PySem.W.Frag) (a : Addr) : It :=
  ⟨fun i H => ∃ (xs : List V) (x : V), SqT K H a xs ∧ xs[i]? = some x, fun i H v H' => ∃ T x, v = .ref T ∧ H T = none ∧ H' = upd H T (.tup [.int (i : Nat), x]) ∧ ∀ xs, SqT K H a xs → xs[i]? = some x, fun i H => ∃ xs : List V, SqT K H a xs ∧ xs.length = i⟩
theorem turn_enumT {P : Program} {w : World} {K : PySem.W.Frag} {elts : List Expr} {kk : Nat} {tpos : Pos} (a e it : Addr) :
    Turn P w K (.Tuple elts kk tpos) (Iet K a) [e, it] e (fun i h => (∃ old, IsEnum h e it ((i : Nat) : Int) old) ∧ h.IsTupleIter it a i ∧ e ≠ it) where
  mem := by simp
  obj := fun i h st b hb => by
    obtain ⟨⟨old, he⟩, ⟨o, ho, hc, hd⟩, _⟩ := st
    have e' : b = e ∨ b = it := by simpa using hb
    rcases e' with z | z
    · rw [z]; exact ⟨_, he, fun v q => nomatch q⟩
    · rw [z]; exact ⟨o, ho, fun v q => by rw [hd] at q; cases q⟩
  keep := fun i h h' st k => let ⟨⟨old, he⟩, hi, hne⟩ := st; ⟨⟨old, k e (by simp) _ he⟩, hi.at fun o q => k it (by simp) o q, hne⟩
  item := by
    intro X hP hw hK hc i pins s σ H E I hf st hg
    subst hP hw hK
    obtain ⟨⟨old, he⟩, hit, hne⟩ := st
    obtain ⟨xs, x, hq, hx⟩ := hg
    obtain ⟨its, rv, p, hz⟩ := I.tuple hq
    have p' : s.heap.IsTuple a its.toArray := p
    obtain ⟨u, hu, ru⟩ := rv.get hx
    have hel : e < s.heap.objs.size := Heap.lt_size he
    have hil : it < s.heap.objs.size := by obtain ⟨_, q, _⟩ := hit; exact Heap.lt_size q
    have hai : a ≠ it := fun z => by
      obtain ⟨o1, h1, h2, h3⟩ := p'
      obtain ⟨o2, h4, h5, h6⟩ := hit
      rw [z, h4] at h1
      cases h1
      rw [h5] at h2
      exact absurd (Value.type.inj h2) (by decide)
    have hea : e ≠ a := fun z => by
      obtain ⟨o1, h1, h2, h3⟩ := p'
      rw [← z, show s.heap.get? e = some _ from he] at h1
      cases h1
      exact absurd (Value.type.inj h2) (by decide)
    have hil2 : i < its.toArray.size := by
      have := (List.getElem?_eq_some_iff.mp hx).1
      simp only [List.size_toArray]
      rw [← rv.length]
      exact this
    refine wpAny_pyNext_enum_itemD (Draws.tuple (A := X.A.in1) (I.ok.hd hc) it a hai its.toArray) he ⟨hit, p'⟩ hil2 hne (by simp [hne, hea]) fun y h' tk hy ho hst hT hsz hk => ?_
    have ey : y = u := by
      rw [show its.toArray[i]? = its[i]? from by simp, hu] at hy
      exact (Option.some.inj hy).symm
    subst ey
    refine ⟨_, rfl, wpAny_letOwnedTupleGo_enum (s := { s with heap := h', toks := tk + 1 }) ho fun h'' he' sb => ?_⟩
    have hT2 : h''.get? s.heap.objs.size = some { cls := .type "tuple", data := .seq #[.int i tk, y] } := (sb.2 _ (Nat.ne_of_gt hel)).trans hT
    have new : ObjOk X.prog X.w (upd H s.heap.objs.size (.tup [.int (i : Nat), x])) h'' s.heap.objs.size (.tup [.int (i : Nat), x]) :=
      ⟨by show 2 ≤ sizeLine; decide, [.int i tk, y], .cons ⟨_, rfl⟩ (.cons ru .nil), ⟨_, hT2, rfl, _, rfl⟩⟩
    have I1 : Inv X pins σ (upd H s.heap.objs.size (.tup [.int (i : Nat), x])) { s with heap := h'', toks := tk + 1 } :=
      I.turnedNew (ch := [e, it]) (fun b ob hb q => (sb.2 b (fun z => hb (by simp [z]))).trans (hk b ob (fun z => hb (by simp [z])) (fun z => hb (by simp [z])) q)) hf (Nat.le_refl _) new
    refine ⟨.ref s.heap.objs.size, _, I1, rfl, ⟨_, x, rfl, I.hok.fresh (Nat.le_refl _), rfl, fun ys hy => ?_⟩, ⟨⟨y, ?_⟩, hst.1.at fun o q => (sb.2 it (Ne.symm hne)).trans q, hne⟩, fun b hb => ?_⟩
    · rw [I.tuple_inj hy hq]; exact hx
    · have e1 : ((i + 1 : Nat) : Int) = (i : Int) + 1 := by omega
      rw [e1]; exact he'
    · have hb' : b < s.heap.objs.size := by
        have e' : b = e ∨ b = it := by simpa using hb
        rcases e' with z | z
        · rw [z]; exact hel
        · rw [z]; exact hil
      rw [upd_ne (Nat.ne_of_lt hb')]
      exact (hf b hb).1
  done := by
    intro X hP hw hK hc i pins s σ H E I hf st hg
    subst hP hw hK
    obtain ⟨⟨old, he⟩, hit, hne⟩ := st
    obtain ⟨xs, hq, hx⟩ := hg
    obtain ⟨its, rv, p, hz⟩ := I.tuple hq
    have p' : s.heap.IsTuple a its.toArray := p
    obtain ⟨f0, f1, f2, f3, f4, f5⟩ := hf it (by simp)
    have hl := rv.length
    have hai : a ≠ it := fun z => by
      obtain ⟨o1, h1, h2, h3⟩ := p'
      obtain ⟨o2, h4, h5, h6⟩ := hit
      rw [z, h4] at h1
      cases h1
      rw [h5] at h2
      exact absurd (Value.type.inj h2) (by decide)
    have hil2 : i = its.toArray.size := by
      simp only [List.size_toArray]
      rw [← hl, hx]
    rw [hil2] at he hit
    exact wpAny_pyNext_enum_endD (Draws.tuple (A := X.A.in1) (I.ok.hd hc) it a hai its.toArray) he ⟨hit, p'⟩ fun h' eb => ⟨rfl, I.turned (t' := s.toks) (fun b o hb q => eb b o hb q) f0 f1 f3 f4 f5⟩
  self := fun A i s Q E st h => let ⟨⟨_, he⟩, _⟩ := st; wpAny_pyIter_enum he h

/-- enumerate(a list, a tuple): whichever it is -/
def iEnA (K : PySem.W.Frag) (ta : TA) : TI := fun σ H R => ta σ H fun vs H1 => ∃ a, vs = [.ref a] ∧ ((∃ xs, SqL K H1 a xs) ∧ R (Ite K a) H1 ∨ (∃ xs, SqT K H1 a xs) ∧ R (Iet K a) H1)
theorem pi_enumA {X : Cx} {e : Expr} {ta : TA} {p pos tpos : Pos} {elts : List Expr} {kk : Nat} (hg : Gl X "enumerate") (hm : X.mg "enumerate" = none) (ha : PA X [e] ta) (hs : starEach [e] X.env = [(false, eval e X.env)] := by rfl) :
    PI X (.Tuple elts kk tpos) (.Call (.Name "enumerate" p) [e] [] pos) (iEnA X.K ta) := by
  refine ⟨fun pins s σ H R I h => ?_⟩
  refine Call_ (ld_blt I hg hm boot_enumerate (PyProof.Rows.callWith_type1 (thn (ha.run pos pins s σ H _ I h) fun us s1 ⟨vs, H1, I1, r1, q1⟩ => ?_) hs rfl))
  obtain ⟨a, ex, q1⟩ := q1
  subst ex
  cases r1 with
  | cons r rr =>
    cases rr
    cases r
    have hle : ∀ b : Addr, b = s1.heap.objs.size + 1 ∨ b = s1.heap.objs.size → s1.heap.objs.size ≤ b := fun b hb => by
      rcases hb with z | z
      · rw [z]; exact Nat.le_add_right _ _
      · rw [z]; exact Nat.le_refl _
    rcases q1 with ⟨⟨xs, hq⟩, q⟩ | ⟨⟨xs, hq⟩, q⟩
    · obtain ⟨its, rv, p', hz⟩ := I1.list hq
      refine call_enumerate_list p'.isList fun h' he hit hsz hk => wpAny_pyIter_enum he ?_
      have I2 : Inv X pins σ H1 { s1 with heap := h' } := I1.kept (t' := s1.toks) hk
      refine ⟨s1.heap.objs.size + 1, [s1.heap.objs.size + 1, s1.heap.objs.size], _, _, H1, rfl, I2, turn_enum a (s1.heap.objs.size + 1) s1.heap.objs.size, ⟨⟨.none, he⟩, hit, Nat.succ_ne_self _⟩, fun b hb => ?_, q⟩
      have := hle b (by simpa using hb)
      exact I1.fpOk this (I1.hok.fresh this)
    · obtain ⟨its, rv, p', hz⟩ := I1.tuple hq
      refine wd_enum_begins (begins_tuple a its.toArray) (show s1.heap.IsTuple a its.toArray from p') fun h' he hit hsz hk => wpAny_pyIter_enum he ?_
      have I2 : Inv X pins σ H1 { s1 with heap := h' } := I1.kept (t' := s1.toks) hk
      refine ⟨s1.heap.objs.size + 1, [s1.heap.objs.size + 1, s1.heap.objs.size], _, _, H1, rfl, I2, turn_enumT a (s1.heap.objs.size + 1) s1.heap.objs.size, ⟨⟨.none, he⟩, ⟨_, hit, rfl, rfl⟩, Nat.succ_ne_self _⟩, fun b hb => ?_, q⟩
      have := hle b (by simpa using hb)
      exact I1.fpOk this (I1.hok.fresh this)
/-- the items with their numbers -/
def numD : Nat → List D → List D
  | _, [] => []
  | n, d :: ds => .tup [.int n, d] :: numD (n + 1) ds
theorem numD_get : ∀ (ds : List D) (n i : Nat) (d : D), ds[i]? = some d → (numD n ds)[i]? = some (.tup [.int ((n + i : Nat) : Int), d])
  | [], _, _, _, h => by simp at h
  | d :: ds, n, 0, d', h => by simp at h; subst h; rfl
  | d :: ds, n, i + 1, d', h => by
    have := numD_get ds (n + 1) i d' (by simpa using h)
    rw [show n + 1 + i = n + (i + 1) by omega] at this
    simpa [numD] using this
theorem numD_length : ∀ (ds : List D) (n : Nat), (numD n ds).length = ds.length
  | [], _ => rfl
  | _ :: ds, n => by simp [numD, numD_length ds]
/-- the items of a thing that is numbered (a text is not) -/
def enumD : D → Option (List D)
  | .lst xs => some (numD 0 xs)
  | .tup xs => some (numD 0 xs)
  | .scr ns => some (numD 0 (ns.map D.int))
  | _ => none
def enX (f : Mo D) : Mo (List D) := Mo.bind f fun d ρ => retO ρ (enumD d)
section
variable {X : Cx} {e : Ev} {W : WX} {Fo G H : Hp} {σ : St} {ρ : List Sl}
theorem wk_pair {J : It} {ws : List V} {xs : List D} {Y : Nat → Hp → V → Hp → Prop} {p : Hp → Prop} (w : Walk J ws.length p Y) (hp : ∀ H, (∃ G1, L2.Same G G1 ∧ L2.Same G1 H) → p H)
    (hy : ∀ i H x H', p H → Y i H x H' → ∃ T y, x = .ref T ∧ H T = none ∧ H' = upd H T (.tup [.int (i : Nat), y]) ∧ ws[i]? = some y) (r : DRs e G ws xs) : Wk e Fo G σ H ρ J (numD 0 xs) := by
  refine ⟨fun i H x H' => p H ∧ Y i H x H', ?_, fun i H x H' G1 g h1 hi y => ?_⟩
  · rw [numD_length, ← r.length]
    refine w.mono hp fun i H x H' _ pq y => ⟨hp H pq, y⟩
  · obtain ⟨T, y', rfl, nT, eH, hw⟩ := hy i H x H' y.1 y.2
    rw [numD_length] at hi
    obtain ⟨v, h2, h3⟩ := r.get (List.getElem?_eq_getElem hi)
    rw [hw] at h2
    cases h2
    have gT := h1.free nT
    refine ⟨upd G1 T (.tup [.int (i : Nat), y']), _, numD_get xs 0 i _ (List.getElem?_eq_getElem hi), ?_, ?_⟩
    · rw [eH]
      exact Gr.lay2 h1 nT
    · have e0 : ((0 + i : Nat) : Int) = (i : Int) := by omega
      rw [e0]
      exact .tup (SqT.of upd_same) (.cons (.int _) (.cons (h3.mono (g.trans (same_upd gT))) .nil))

theorem xi_enum {l : Expr} {f : Mo D} {p pos tpos : Pos} {elts : List Expr} {kk : Nat} (C : EC X e W) (hg : Gl X "enumerate") (hm : X.mg "enumerate" = none) (hl : PE X l (tD e W f)) (hs : starEach [l] X.env = [(false, eval l X.env)] := by rfl) :
    PI X (.Tuple elts kk tpos) (.Call (.Name "enumerate" p) [l] [] pos) (tI e W (enX f)) := (pi_enumA hg hm (pa_cons hl pa_nil hs) hs).imp fun σ H Q ⟨Fo, G, ρ, R, p⟩ => by
  refine tG.mono (Post.bind R p) fun v H1 ⟨G1, ρ1, d, g1, R1, r1, p1⟩ => ?_
  have r2 : DR e G1 v d := r1
  rw [C.K]
  cases r2 with
  | @lst a ws ds h r =>
    refine ⟨a, rfl, .inl ⟨⟨_, SqL.of (R1.gh _ _ h)⟩, p1.here R1 (wk_pair (ws := ws) walk_enum (fun H ⟨G2, g2, h2⟩ => Same.seqL (g2.trans h2) (SqL.of h)) (fun i H x H' _ ⟨T, v, w, h1, h2, h3, h4, h5⟩ => ?_) r)⟩⟩
    cases h4
    exact ⟨T, w, h1, h2, h3, h5⟩
  | @scr a ns h =>
    refine ⟨a, rfl, .inl ⟨⟨_, Same.seqL R1.gh h⟩, p1.here R1 (wk_pair (ws := ns.map V.int) walk_enum (fun H ⟨G2, g2, h2⟩ => Same.seqL (g2.trans h2) h) (fun i H x H' _ ⟨T, v, w, h1, h2, h3, h4, h5⟩ => ?_) (.of_ints _))⟩⟩
    cases h4
    exact ⟨T, w, h1, h2, h3, h5⟩
  | @tup a ws ds h r =>
    refine ⟨a, rfl, .inr ⟨⟨_, Same.seqT R1.gh h⟩, p1.here R1 (wk_pair (ws := ws) (Y := fun i H x H' => ∃ T y, x = .ref T ∧ H T = none ∧ H' = upd H T (.tup [.int (i : Nat), y]) ∧ ws[i]? = some y) ⟨fun i _ hi q => ⟨ws, ws[i], q, by simp [hi]⟩, fun _ q => ⟨ws, q, rfl⟩, fun i H v H' _ q y => ?_⟩
      (fun H ⟨G2, g2, h2⟩ => Same.seqT (g2.trans h2) h) (fun i H x H' _ y => y) r)⟩⟩
    obtain ⟨T, x, h1, h2, h3, h4⟩ := y
    exact ⟨T, x, h1, h2, h3, h4 ws q⟩
  | _ => exact p1.elim
end
end L2.WD
/-! The data layer, part 14: a list's place is stored to; {}; calls by names. -/
namespace L2.WD
open PySem PySem.Spec PySem.Calls PyProof.Rows

/-! ### l[i] = .. -/
def hasOw (ρ : List Sl) (i : Nat) : Bool := match ρ[i]? with
  | some (.ow _ _) => true
  | _ => false
def gSubD (i : Nat) (fi : Mo Ar) : D → So := fun d ρ => if hasOw ρ i = true then match fi ρ with
  | .ok ρ1 a => (match con ρ1 a, ρ1[i]? with
    | some (.int k), some (.ow m xs) => (match ixN xs.length k with
      | some j => .nx (ρ1.set i (.ow m (xs.set j d)))
      | none => .bad)
    | _, _ => .bad)
  | _ => .bad
  else .bad
section
variable {X : Cx} {e : Ev} {W : WX} {pos : Pos}
theorem sg_sub {i : Nat} {l ix : Expr} {fi : Mo Ar} (ho : PE X l (tVar i)) (hi : PE X ix (tO e W fi))
    (ha : ∀ v, assign (.Subscript l ix pos) X.env v = (do
      let ov ← holding [v] (eval l X.env)
      let iv ← holding [v, ov] (eval ix X.env)
      standAt pos
      holding [v, ov, iv] (setItem ov iv v)
      release [v, ov, iv] []) := by intro _; rfl) : PG X (.Subscript l ix pos) (tgR e [] (gSubD i fi)) :=
  (pg_sub ho hi set_list ha).imp fun v σ H Q ⟨Fo, G, ρ, d, R, r, ρ', h, q⟩ => by
    unfold gSubD at h
    by_cases h0 : hasOw ρ i = true
    case neg =>
      rw [if_neg h0] at h
      cases h
    rw [if_pos h0] at h
    have hs0 : ∃ o, σ[i]? = some (some o) := by
      unfold hasOw at h0
      split at h0
      · rename_i m xs hq
        obtain ⟨o, h1, h2⟩ := R.get hq
        cases h2 with
        | own _ => exact ⟨_, h1⟩
      · cases h0
    obtain ⟨o, ho⟩ := hs0
    cases q1 : fi ρ with
    | bad => rw [q1] at h; cases h
    | exc ρ1 c fs => rw [q1] at h; cases h
    | ok ρ1 a =>
      rw [q1] at h
      simp only at h
      cases q2 : con ρ1 a with
      | none => simp only [q2] at h; cases h
      | some da =>
        cases q3 : ρ1[i]? with
        | none => simp only [q2, q3] at h; cases da <;> cases h
        | some s =>
          simp only [q2, q3] at h
          cases da with
          | int k =>
            cases s with
            | ow m xs =>
              simp only at h
              cases q4 : ixN xs.length k with
              | none => simp only [q4] at h; cases h
              | some j =>
                simp only [q4] at h
                cases h
                -- the list is looked at ahead of the place
                have fin : ∀ (o : V), σ[i]? = some (some o) → tO e W fi σ H (fun iv H2 => rSetL o iv v H2 fun H3 => Q σ H3) := fun o ho => by
                  refine ⟨Fo, G, ρ, R, ?_⟩
                  rw [q1]
                  intro G2 H2 iv g2 k2 R2 ra
                  obtain ⟨o', h1, h2⟩ := R2.get q3
                  rw [ho] at h1
                  cases h1
                  cases h2 with
                  | @own b _ hq =>
                    cases hq with
                    | @ow _ ws _ a1 a2 a3 a4 =>
                      refine ⟨b, ws, k, j, rfl, (ra.co R2 q2).int, a1, by rw [a2.length]; exact q4, ?_⟩
                      exact q G2 σ _ g2 (k2.trans (keep_ow q3)).toS (R2.upd_own q3 ho (a2.set (r.mono g2) j)) rfl fun _ _ => rfl
                exact ⟨o, ho, fin o ho⟩
            | _ => cases h
          | _ => cases s <;> cases h
end
/-! ### {} -/
def dic0X : Mo Sl := fun ρ => .ok ρ (.fz (.dic []))
section
variable {X : Cx} {e : Ev} {W : WX} {pos : Pos}
theorem xx_dic0 : PE X (.Dict [] [] pos) (tX e W dic0X) := pe_dnewK.imp fun σ H Q ⟨Fo, G, ρ, R, p⟩ pa np =>
  p _ _ _ (same_upd (R.gnone np)) (Keep.refl _) (R.lay2 np) (Val.fz (.dic upd_same .nil))
end
/-! ### calls by names -/
/-- the parameters' values, out of what is written and what is set ahead -/
def selL {α : Type} (perm : List Nat) (l : List α) : List α := perm.filterMap fun i => l[i]?
theorem selL_length {α : Type} {l : List α} : ∀ {perm : List Nat}, (∀ i ∈ perm, i < l.length) → (selL perm l).length = perm.length
  | [], _ => rfl
  | i :: perm, h => by
    have h1 := h i (List.mem_cons_self ..)
    unfold selL
    rw [List.filterMap_cons, List.getElem?_eq_getElem h1]
    simp only [List.length_cons]
    exact congrArg Nat.succ (selL_length (perm := perm) fun j hj => h j (List.mem_cons_of_mem _ hj))
theorem vals_sel {vs : List V} {us : List Value} (r : Vals vs us) : ∀ (perm : List Nat), Vals (selL perm vs) (selL perm us)
  | [] => .nil
  | i :: perm => by
    have ih := vals_sel r perm
    unfold selL at ih ⊢
    rw [List.filterMap_cons, List.filterMap_cons]
    by_cases c : i < vs.length
    · have c2 : i < us.length := by rw [← r.length]; exact c
      rw [List.getElem?_eq_getElem c, List.getElem?_eq_getElem c2]
      obtain ⟨u, h1, h2⟩ := r.get (List.getElem?_eq_getElem c)
      rw [List.getElem?_eq_getElem c2] at h1
      cases h1
      exact .cons h2 ih
    · have c2 : ¬ i < us.length := by rw [← r.length]; exact c
      rw [List.getElem?_eq_none (by omega), List.getElem?_eq_none (by omega)]
      exact ih
theorem ars_sel {e : Ev} {G : Hp} {σ : St} {vs : List V} {as : List Ar} (r : ArRs e G σ vs as) : ∀ (perm : List Nat), ArRs e G σ (selL perm vs) (selL perm as)
  | [] => .nil
  | i :: perm => by
    have ih := ars_sel r perm
    unfold selL at ih ⊢
    rw [List.filterMap_cons, List.filterMap_cons]
    by_cases c : i < as.length
    · have c2 : i < vs.length := by rw [r.length]; exact c
      rw [List.getElem?_eq_getElem c, List.getElem?_eq_getElem c2]
      obtain ⟨u, h1, h2⟩ := r.get (List.getElem?_eq_getElem c)
      rw [List.getElem?_eq_getElem c2] at h1
      cases h1
      exact .cons h2 ih
    · have c2 : ¬ i < vs.length := by rw [r.length]; exact c
      rw [List.getElem?_eq_none (by omega), List.getElem?_eq_none (by omega)]
      exact ih
theorem ArRs.append {e : Ev} {G : Hp} {σ : St} : ∀ {vs ws : List V} {as bs : List Ar}, ArRs e G σ vs as → ArRs e G σ ws bs → ArRs e G σ (vs ++ ws) (as ++ bs)
  | _, _, _, _, .nil, s => s
  | _, _, _, _, .cons h r, s => .cons h (ArRs.append r s)
theorem ArRs.of_drs {e : Ev} {G : Hp} {σ : St} : ∀ {vs : List V} {ds : List D}, DRs e G vs ds → ArRs e G σ vs (ds.map .vl)
  | _, _, .nil => .nil
  | _, _, .cons h r => .cons h (ArRs.of_drs r)
section
variable {K : PySem.W.Frag} {x qual : Str} {params : Arguments} {body : List Stmt} {scope : Scope} {dvs : List V} {kws : List (Str × V)} {f : Addr} {fd : FuncData} {ps : List Str}
/-- no defaults -/
theorem kb0 (F : FunD K x qual params body scope [] [] f fd) (n : Nat) (ks : List Str) (perm : List Nat)
    (h : ∀ (kV doc pm : Value) (an : Option Addr) (cdv ct : Value) (us ws : List Value), us.length = n → ws.length = ks.length → bindArgs (PySem.W.fnOf x qual params body scope .none kV doc pm an cdv ct) ⟨us, ks.zip ws⟩ = pure (ps.zip (selL perm (us ++ ws)))) :
    ∃ g, KBn K fd ps n ks g (fun vs zs => selL perm (vs ++ zs ++ [])) := by
  obtain ⟨oc, od, dV, kV, doc, pm, an, cdv, ct, osl, rfl, lk, hcd, hD, hK⟩ := F.ex
  rcases hD with ⟨_, rfl⟩ | ⟨e, _⟩
  · refine ⟨fun us ws => selL perm (us ++ ws), fun s us ws X l1 l2 => BindsTo.of_eq (h kV doc pm an cdv ct us ws l1 l2), fun r1 r2 => ?_⟩
    rw [List.append_nil]
    exact vals_sel (r1.append r2) perm
  · exact absurd rfl e
theorem kbD (F : FunD K x qual params body scope dvs kws f fd) (n : Nat) (ks : List Str) (perm : List Nat) (hd : dvs ≠ [])
    (h : ∀ (T : Addr) (kV doc pm : Value) (an : Option Addr) (cdv ct : Value) (us its ws : List Value), us.length = n → its.length = dvs.length → ws.length = ks.length →
      ∃ k, bindArgs (PySem.W.fnOf x qual params body scope (.ref T) kV doc pm an cdv ct) ⟨us, ks.zip ws⟩ = seqItems? (.ref T) >>= k ∧ k (some its.toArray) = pure (ps.zip (selL perm (us ++ ws ++ its)))) :
    ∃ g, KBn K fd ps n ks g (fun vs zs => selL perm (vs ++ zs ++ dvs)) := by
  obtain ⟨its, b⟩ := F.kbindsD n ks (fun {α} vs ds zs => selL perm (vs ++ zs ++ ds)) hd (fun r1 r2 r3 => vals_sel ((r1.append r3).append r2) perm) h
  exact ⟨_, b⟩
end
section
variable {X : Cx} {e : Ev} {W : WX} {a : Expr} {es : List Expr} {kws : List Keyword} {pos p kpos : Pos} {x : Str} {nm : Option Str} {k n : Nat} {f : Addr} {fd : FuncData} {ps ks : List Str} {F : Mo Sl} {dvs : List V} {more : List D} {perm : List Nat} {fa fk : Mo (List Ar)} {g : List Value → List Value → List Value}
theorem _root_.L2.PK.imp {t t' : TA} (h : PK X kws t) (i : ∀ σ H Q, t' σ H Q → t σ H Q) : PK X kws t' := ⟨fun p pins s σ H Q I w => h.run p pins s σ H Q I (i σ H Q w)⟩
theorem xk_nil : PK X [] (tA e W nilA) := pk_nil.imp fun σ H Q ⟨Fo, G, ρ, R, p⟩ => p.here R .nil
theorem xk_cons {fo : Mo Ar} (h1 : PE X a (tO e W fo)) (h2 : PK X kws (tA e W fk)) : PK X (⟨nm, a, kpos⟩ :: kws) (tA e W (consA fo fk)) := (pk_cons h1 h2).imp fun σ H Q ⟨Fo, G0, ρ, R, p⟩ => by
  refine tG.mono (Post.bind R p) fun x H1 ⟨G1, ρ1, a1, g1, R1, r1, p1⟩ => ?_
  refine tG.mono (Post.bind R1 p1) fun y H2 ⟨G2, ρ2, a2, g2, R2, r2, p2⟩ => ?_
  exact p2.here R2 (.cons (r1.mono g2) r2)
def kwX (F : Mo Sl) (perm : List Nat) (more : List D) (fa fk : Mo (List Ar)) : Mo Sl := Mo.bind fa fun as => Mo.bind fk fun bs => appF F [] (selL perm (as ++ bs ++ more.map .vl))
theorem run_fnNS {E : St → XK} {sp : Sp} {gV : List V → List V → List V} {pins : List (Addr × Obj)} {σ : St} {H : Hp} {s : Shared} {Q : VK} {us ws : List Value} {vs zs : List V} (Fk : FnOk X.prog X.w X.K X.mg X.base (L2.CX X.prog X.w) k f fd ps sp) (hr : Room k X.A) (hb : KBn X.K fd ps n ks g gV)
    (hx : PassesAt (L2.CX X.prog X.w) X σ (E σ)) (I : Inv X pins σ H s) (r : Vals vs us) (rz : Vals zs ws) (l1 : vs.length = n) (l2 : zs.length = ks.length) (h : sp (gV vs zs) H Q (E σ)) : wpAny (model X.prog X.w) X.A (call (.ref f) us (ks.zip ws)) (EP X pins σ Q) X.xe s := by
  have r2 := hb.rel r rz
  refine wpAny_call (codeAny_mono (Fk.run X.A X.stack s H ⟨us, ks.zip ws⟩ (g us ws) (gV vs zs) Q (E σ) hr I.env0 (hb.to s us ws I.kIn (r.length.symm.trans l1) (rz.length.symm.trans l2)) r2 h) fun r s' hq => ?_)
  cases r with
  | error e => exact hx pins H s e s' I hq
  | ok fl =>
    cases fl with
    | ret u => exact I.after hq
    | next => exact False.elim hq
    | brk => exact False.elim hq
    | cont => exact False.elim hq
def tCallNS (n m : Nat) (sp : Sp) (gV : List V → List V → List V) (E : St → XK) (t tk : TA) : TE := fun σ H Q => t σ H fun vs H1 => tk σ H1 fun zs H2 => vs.length = n ∧ zs.length = m ∧ sp (gV vs zs) H2 Q (E σ)
theorem kw_core {σ : St} {H : Hp} {Q : VK} {m mk : Nat} (hd : ∀ G, DRs e G dvs more) (hn : LenA fa n) (hk : LenA fk mk) (hp : ∀ i ∈ perm, i < n + mk + more.length) (hl : perm.length = m) (h : tX e W (kwX F perm more fa fk) σ H Q) :
    tCallNS n mk (spD e m F) (fun vs zs => selL perm (vs ++ zs ++ dvs)) (WE W) (tA e W fa) (tA e W fk) σ H Q := by
  obtain ⟨Fo, G0, ρ, R, p⟩ := h
  refine ⟨Fo, G0, ρ, R, ?_⟩
  unfold kwX Mo.bind at p
  cases q : fa ρ with
  | ok ρ1 as =>
    rw [q] at p
    intro G1 H1 vs g1 k1 R1 r1
    have p1 := p.from g1 k1
    refine ⟨Fo, G1, ρ1, R1, ?_⟩
    unfold Mo.bind at p1
    cases q2 : fk ρ1 with
    | ok ρ2 bs =>
      simp only [q2] at p1
      intro G2 H2 zs g2 k2 R2 r2
      have p2 := p1.from g2 k2
      have n1 := hn _ _ _ q
      have n2 := hk _ _ _ q2
      have ra : ArRs e G1 σ vs as := r1
      have rb : ArRs e G2 σ zs bs := r2
      have rr := ars_sel (((ra.mono g2).append rb).append (ArRs.of_drs (hd G2))) perm
      have := app_core (more := []) (ws := []) (m := m) R2 rr .nil (by
        rw [selL_length (by
          intro i hi
          have := hp i hi
          simp only [List.length_append, List.length_map, n1, n2]
          exact this), hl]
        rfl) p2
      rw [List.append_nil] at this
      exact ⟨ra.length.trans n1, rb.length.trans n2, this⟩
    | exc ρ2 c fs =>
      simp only [q2] at p1
      exact p1
    | bad =>
      simp only [q2] at p1
      exact p1
  | exc ρ1 c fs => rw [q] at p; exact p
  | bad => rw [q] at p; exact p
theorem xx_callK {m : Nat} (C : EC X e W) (Fk : FnOk X.prog X.w X.K X.mg X.base (L2.CX X.prog X.w) k f fd ps (spD e m F)) (hr : Room k X.A) (hg : Gl X x) (hm : X.mg x = some (.ref f)) (hk : PySem.W.keepIn X.K (.ref f) = true)
    (hb : KBn X.K fd ps n ks g (fun vs zs => selL perm (vs ++ zs ++ dvs))) (hdd : ∀ G, DRs e G dvs more) (ha : PA X (a :: es) (tA e W fa)) (hkw : PK X kws (tA e W fk)) (hn : LenA fa n) (hkn : LenA fk ks.length) (hp : ∀ i ∈ perm, i < n + ks.length + more.length) (hl : perm.length = m)
    (hall : (backToKw pos (keywordEach kws X.env)).all (·.1.isSome) = true := by rfl) (hks : (backToKw pos (keywordEach kws X.env)).filterMap (·.1) = ks := by rfl)
    (hdb : (x == ("__debug__" : Str)) = false := by decide) (he : starEach (a :: es) X.env = (false, eval a X.env) :: starEach es X.env := by rfl)
    (hpl : ((backTo pos (starEach (a :: es) X.env)).any (·.1) || (backToKw pos (keywordEach kws X.env)).any (·.1.isNone)) = false := by rfl) :
    PE X (.Call (.Name x p) (a :: es) kws pos) (tX e W (kwX F perm more fa fk)) := by
  refine PE.imp (t := tCallNS n ks.length (spD e m F) (fun vs zs => selL perm (vs ++ zs ++ dvs)) (WE W) (tA e W fa) (tA e W fk)) ⟨fun pins s σ H Q I h => ?_⟩ fun _ _ _ h => kw_core hdd hn hkn hp hl h
  refine wpAny_Call_Name_kw (ld_glob I hg hm ?_ hdb)
  refine PySem.W.callWith_KW (h₀ := X.base) I.ok.mod.kin hk hall (thn (ha.run pos pins s σ H _ I h) fun us s1 ⟨vs, H1, I1, r, q⟩ => ?_) hpl he
  refine thn (hkw.run pos pins s1 σ H1 _ I1 q) fun ws s2 ⟨zs, H2, I2, rz, l1, l2, q2⟩ => ⟨I2.kIn, ?_⟩
  rw [hks]
  exact run_fnNS (E := WE W) Fk hr hb (passAt C.tk σ) I2 r rz l1 l2 q2
theorem xx_callK0 {m : Nat} (C : EC X e W) (Fk : FnOk X.prog X.w X.K X.mg X.base (L2.CX X.prog X.w) k f fd ps (spD e m F)) (hr : Room k X.A) (hg : Gl X x) (hm : X.mg x = some (.ref f)) (hk : PySem.W.keepIn X.K (.ref f) = true)
    (hb : KBn X.K fd ps 0 ks g (fun vs zs => selL perm (vs ++ zs ++ dvs))) (hdd : ∀ G, DRs e G dvs more) (hkw : PK X kws (tA e W fk)) (hkn : LenA fk ks.length) (hp : ∀ i ∈ perm, i < 0 + ks.length + more.length) (hl : perm.length = m)
    (hall : (backToKw pos (keywordEach kws X.env)).all (·.1.isSome) = true := by rfl) (hks : (backToKw pos (keywordEach kws X.env)).filterMap (·.1) = ks := by rfl)
    (hdb : (x == ("__debug__" : Str)) = false := by decide)
    (hpl : ((backTo pos (starEach [] X.env)).any (·.1) || (backToKw pos (keywordEach kws X.env)).any (·.1.isNone)) = false := by rfl) :
    PE X (.Call (.Name x p) [] kws pos) (tX e W (kwX F perm more nilA fk)) := by
  refine PE.imp (t := tCallNS 0 ks.length (spD e m F) (fun vs zs => selL perm (vs ++ zs ++ dvs)) (WE W) (tA e W nilA) (tA e W fk)) ⟨fun pins s σ H Q I h => ?_⟩ fun _ _ _ h => kw_core hdd lenA_nil hkn hp hl h
  have h' : tA e W fk σ H fun zs H2 => zs.length = ks.length ∧ spD e m F (selL perm (zs ++ dvs)) H2 Q (WE W σ) := by
    obtain ⟨Fo, G, ρ, R, p⟩ := h
    exact tG.mono (p G H [] (L2.Same.refl _) (Keep.refl _) R .nil) fun zs H2 ⟨_, h2, h3⟩ => ⟨h2, h3⟩
  refine wpAny_Call_Name_kw (ld_glob I hg hm ?_ hdb)
  refine PySem.W.callWith_KW0 (h₀ := X.base) I.ok.mod.kin hk hall (thn (hkw.run pos pins s σ H _ I h') fun ws s2 ⟨zs, H2, I2, rz, l2, q2⟩ => ⟨I2.kIn, ?_⟩) hpl
  rw [hks]
  exact run_fnNS (E := WE W) (vs := []) (us := []) Fk hr hb (passAt C.tk σ) I2 .nil rz rfl l2 q2
end
end L2.WD
/-! The data layer, part 15: facts of the written part as truths that are computed. -/
namespace L2.WD
open PySem PySem.Spec PySem.Calls PyProof.Rows

def tlV : List Value := [.type "ValueError", .type "Exception", .type "BaseException", .type "object"]
def tlL : List Value := [.type "LookupError", .type "Exception", .type "BaseException", .type "object"]
def tlA : List Value := [.type "ArithmeticError", .type "Exception", .type "BaseException", .type "object"]
theorem famV : Fam "ValueError" "ValueError.__new__" "ValueError.__init__" tlV := fam_V
theorem famL : Fam "LookupError" "LookupError.__new__" "LookupError.__init__" tlL := fam_L
theorem famA : Fam "ArithmeticError" "ArithmeticError.__new__" "ArithmeticError.__init__" tlA := fam_A
section
variable {K : PySem.W.Frag} {C : Addr}
def excB (K : PySem.W.Frag) (C : Addr) : Bool := decide (PySem.W.findIn K (.ref C) "__getattribute__" = some (some (.builtin "BaseException.__getattribute__"))) && (decide (PySem.W.findIn K (.ref C) "__getattr__" = some none) && (decide (PySem.W.subIn K (.ref C) (.type "BaseException") = some true) &&
  (PySem.W.hasDictIn K C && (decide (PySem.W.findIn K (.ref C) "__class__" = some (some (.builtin "object.__class__"))) && (decide (PySem.W.specialIn K (.builtin "object.__class__") "__get__" = some (some (.builtin "getset_descriptor.__get__"))) &&
  (decide (PySem.W.takesIn K (.builtin "object.__class__") = some true) && decide (PySem.W.mroIn K C (.type "object") = some true)))))))
theorem excB_ok (h : excB K C = true) : ExcC K C := by
  obtain ⟨h1, h⟩ := He.ba h
  obtain ⟨h2, h⟩ := He.ba h
  obtain ⟨h3, h⟩ := He.ba h
  obtain ⟨h4, h⟩ := He.ba h
  obtain ⟨h5, h⟩ := He.ba h
  obtain ⟨h6, h⟩ := He.ba h
  obtain ⟨h7, h8⟩ := He.ba h
  exact ⟨of_decide_eq_true h1, of_decide_eq_true h2, of_decide_eq_true h3, h4, of_decide_eq_true h5, of_decide_eq_true h6, of_decide_eq_true h7, of_decide_eq_true h8⟩
def insB (K : PySem.W.Frag) (C : Addr) : Bool := PySem.W.plainGet K C Str.empty && (PySem.W.hasDictIn K C && (PySem.W.plainOver K C && (decide (PySem.W.findIn K (.ref C) "__setattr__" = some (some (.builtin "object.__setattr__"))) &&
  (decide (PySem.W.findIn K (.ref C) "__class__" = some (some (.builtin "object.__class__"))) && (decide (PySem.W.specialIn K (.builtin "object.__class__") "__get__" = some (some (.builtin "getset_descriptor.__get__"))) &&
  (decide (PySem.W.takesIn K (.builtin "object.__class__") = some true) && decide (PySem.W.mroIn K C (.type "object") = some true)))))))
theorem insB_ok (h : insB K C = true) : InsC K C := by
  obtain ⟨h1, h⟩ := He.ba h
  obtain ⟨h2, h⟩ := He.ba h
  obtain ⟨h3, h⟩ := He.ba h
  obtain ⟨h4, h⟩ := He.ba h
  obtain ⟨h5, h⟩ := He.ba h
  obtain ⟨h6, h⟩ := He.ba h
  obtain ⟨h7, h8⟩ := He.ba h
  exact ⟨⟨h1, h2, h3, of_decide_eq_true h4⟩, of_decide_eq_true h5, of_decide_eq_true h6, of_decide_eq_true h7, of_decide_eq_true h8⟩
def oexB (K : PySem.W.Frag) (tl : List Value) (newId : String) (C : Addr) : Bool := (match K.lookup C with
  | some ⟨.type "type", _, .cls cd, sl⟩ => (match cd.mro, sl.toList with
    | .ref C' :: bm, [_, _, _, _, some (.builtin n), _] => C' == C && (n == newId && (!cd.hasDel && (cd.hasDict && refsT tl bm)))
    | _, _ => false)
  | _ => false) && (decide (PySem.W.findIn K (.ref C) "__setattr__" = some (some (.builtin "object.__setattr__"))) && (decide (PySem.W.subIn K (.ref C) (.type "BaseException") = some true) && (decide (PySem.W.typeIn K (.ref C) = some (.type "type")) && PySem.W.keepIn K (.ref C))))
theorem oexB_ok {tl : List Value} {newId : String} (h : oexB K tl newId C = true) : OexG K tl newId C := by
  obtain ⟨q, h⟩ := He.ba h
  obtain ⟨h1, h⟩ := He.ba h
  obtain ⟨h2, h⟩ := He.ba h
  obtain ⟨h3, h4⟩ := He.ba h
  refine ⟨?_, of_decide_eq_true h1, of_decide_eq_true h2, of_decide_eq_true h3, h4⟩
  split at q
  · rename_i dd cd sl ho
    split at q
    · rename_i C' bm k0 k1 k2 k3 n k5 hm hs
      obtain ⟨q1, q⟩ := He.ba q
      obtain ⟨q2, q⟩ := He.ba q
      obtain ⟨q3, q⟩ := He.ba q
      obtain ⟨q4, q5⟩ := He.ba q
      have e1 := beq_iff_eq.mp q1
      have e2 := beq_iff_eq.mp q2
      obtain ⟨nm, bs, mro, ns, qn, hd, sn, sub, ab, col, del⟩ := cd
      dsimp only at hm q3 q4 q5
      subst hm e1 e2 q4
      have hdel : del = false := by cases del <;> first | rfl | cases q3
      subst hdel
      have hsl : sl = #[k0, k1, k2, k3, some (.builtin n), k5] := by
        obtain ⟨l⟩ := sl
        simp only at hs
        rw [hs]
      subst hsl
      exact ⟨nm, qn, ns, bs, bm, sn, sub, ab, col, dd, k0, k1, k2, k3, k5, ho, q5⟩
    · cases q
  · cases q
def baseB (K : PySem.W.Frag) (C : Addr) (initId : String) : Bool := PySem.W.readsIn K C (.type "type") && (decide (PySem.W.specialIn K (.ref C) "__getattribute__" = some (some (.builtin "type.__getattribute__"))) && (match PySem.W.findCls K (.ref C) (.type "type") "__init__" with
  | some (.val v) => decide (v = .builtin initId)
  | _ => false))
theorem baseB_ok {initId : String} (h : baseB K C initId = true) : BaseC K C initId := by
  obtain ⟨h1, h⟩ := He.ba h
  obtain ⟨h2, h3⟩ := He.ba h
  refine ⟨h1, of_decide_eq_true h2, ?_⟩
  split at h3
  · rename_i v q
    rw [q, of_decide_eq_true h3]
  · cases h3
/-- an exception class without an own __init__ -/
def exc0B (K : PySem.W.Frag) (tl : List Value) (newId : String) (C : Addr) : Bool := PySem.W.excIn K C tl newId && (PySem.W.keepIn K (.ref C) && (decide (PySem.W.subIn K (.ref C) (.type "BaseException") = some true) && decide (PySem.W.typeIn K (.ref C) = some (.type "type"))))
/-- .. its __init__ -/
def iniB (K : PySem.W.Frag) (C f : Addr) : Bool := decide (PySem.W.findIn K (.ref C) "__init__" = some (some (.ref f))) && decide (PySem.W.typeIn K (.ref f) = some (.type "function"))
def noB (K : PySem.W.Frag) (C : Addr) (f : Str) : Bool := decide (PySem.W.findIn K (.ref C) f = some none)
end
/-- which kinds a kind is of; ks: those that are known -/
def ancT (ks : List Nat) (anc : List (List Nat)) (a b : Nat) : Option Bool := if ks.contains a && ks.contains b then some ((anc.getD a []).contains b) else none
def isiB (e : Ev) (ks : List Nat) (anc : List (List Nat)) : Bool := ks.all fun a => ks.all fun b => decide (PySem.W.kitOne e.K (kdV e a) (kdV e b) = some ((anc.getD a []).contains b))
theorem isiB_ok {e : Ev} {ks : List Nat} {anc : List (List Nat)} (h : isiB e ks anc = true) (a b : Nat) (r : Bool) (q : ancT ks anc a b = some r) : PySem.W.kitOne e.K (kdV e a) (kdV e b) = some r := by
  unfold ancT at q
  split at q
  · rename_i c
    obtain ⟨c1, c2⟩ := He.ba c
    cases q
    exact of_decide_eq_true (List.all_eq_true.mp (List.all_eq_true.mp h a (by simpa using c1)) b (by simpa using c2))
  · cases q
/-- which classes a handler for the class k catches; xs: the exceptions -/
def catT (xs : List Nat) (anc : List (List Nat)) (k : Nat) (c : Nat) : Option Bool := if xs.contains c then some ((anc.getD (10 + c) []).contains k) else none
def exmB (e : Ev) (xs hs : List Nat) (anc : List (List Nat)) : Bool := hs.all fun k => xs.all fun c => decide (PySem.W.exmOne e.K (.ref (e.ca c)) (kdV e k) = some ((anc.getD (10 + c) []).contains k))
theorem exmB_ok {e : Ev} {xs hs : List Nat} {anc : List (List Nat)} (h : exmB e xs hs anc = true) {k : Nat} (hk : k ∈ hs) (c : Nat) (b : Bool) (q : catT xs anc k c = some b) : PySem.W.exmOne e.K (.ref (e.ca c)) (kdV e k) = some b := by
  unfold catT at q
  split at q
  · rename_i c1
    cases q
    exact of_decide_eq_true (List.all_eq_true.mp (List.all_eq_true.mp h k hk) c (by simpa using c1))
  · cases q
/-! ### names and slots of a context -/
structure CF (X : Cx) (N : List Str) (sc : Scope) : Prop where
  n : X.N = N
  s : X.env.scope = sc
section
variable {X : Cx} {N : List Str} {sc : Scope} {x : Str} {pos : Pos} {i : Nat}
theorem pv (F : CF X N sc) (i : Nat) (h : N[i]? = some x) (v : Vis sc x) (hd : (x == ("__debug__" : Str)) = false := by decide) (hcd : (x == ("__classdict__" : Str)) = false := by decide) : PE X (.Name x pos) (tVar i) :=
  pe_var (by rw [F.n]; exact h) (by rw [F.s]; exact v) hd hcd
theorem CF.gl (F : CF X N sc) (h : sc.names.lookup x = some .globalImplicit) : Gl X x := by
  show X.env.kindOf x = _
  show X.env.scope.names.lookup x = _
  rw [F.s]
  exact h
theorem CF.ix (F : CF X N sc) (h : N[i]? = some x) : X.N[i]? = some x := by rw [F.n]; exact h
theorem CF.lo (F : CF X N sc) (h : Loc sc x) : Loc X.env.scope x := by rw [F.s]; exact h
theorem CF.ll (F : CF X N sc) (h : sc.names.lookup x = some .local) : X.env.scope.names.lookup x = some .local := by rw [F.s]; exact h
end
end L2.WD
/-! The data layer, part 16: what a law's own text leans on. -/
namespace L2.WD
open PySem PySem.Spec PySem.Calls PyProof.Rows

/-- classes by their places in a list of names -/
@[reducible] def evOf (cn : List Str) (K : PySem.W.Frag) (mg : Str → Option Value) : Ev := ⟨K, mg, fun c => He.ga K (cn.getD c ""), fun _ => 0⟩
/-- a def that keeps its promise -/
structure Ok (P : Program) (w : World) (e : Ev) (base : Heap) (d : He.DefD) (k : Nat) (ps : List Str) (F : Mo Sl) (fd : FuncData) : Prop where
  fn : FnOk P w e.K e.mg base (L2.CX P w) k (He.fAd e.K d.at_) fd ps (spD e ps.length F)
  fd : FunD e.K d.name d.qual d.params d.body d.scope (d.dvs e.K) (d.kws e.K) (He.fAd e.K d.at_) fd
/-- an exception's __init__ -/
structure OkX (P : Program) (w : World) (e : Ev) (base : Heap) (d : He.DefD) (k : Nat) (C : Addr) (f px : Str) (fd : FuncData) : Prop where
  fn : FnOk P w e.K e.mg base (L2.CX P w) k (He.fAd e.K d.at_) fd ["self", px] (spXI C f)
  b : Binds e.K fd ["self", px] []
theorem callLen {f : Mo (List Ar)} {n k m : Nat} (h : LenA f n) (e : n + k = m) : ∀ ρ ρ' as, f ρ = .ok ρ' as → as.length + k = m := fun ρ ρ' as q => by rw [h ρ ρ' as q, e]
theorem roomU {k : Nat} {A : Around} (r : Room k A) : A.units + 64 < cLine := by
  have := r.un
  omega
theorem blkC_ok {N : List Str} {sc scope : Scope} {own : List (Str × Nat)} (h : blkC N sc scope own = true) : BlkOk N sc scope own := by
  unfold blkC at h
  obtain ⟨h, h4⟩ := He.ba h
  obtain ⟨h, h3⟩ := He.ba h
  obtain ⟨h1, h2⟩ := He.ba h
  refine ⟨?_, fun y hy => of_decide_eq_true (List.all_eq_true.mp h2 y hy), fun p hp => of_decide_eq_true (List.all_eq_true.mp h3 p hp), fun y hy hk => ?_, fun y hy hk => ?_⟩
  · split at h1
    · assumption
    · cases h1
  · have := List.all_eq_true.mp h4 y hy
    rw [hk] at this
    simp only at this
    split at this
    · exact .inl (by assumption)
    · exact .inr (by assumption)
    · cases this
  · have := List.all_eq_true.mp h4 y hy
    rcases hk with hk | hk
    · rw [hk] at this
      simp only [Bool.or_eq_true, decide_eq_true_eq] at this
      exact this
    · rw [hk] at this
      simp only [Bool.or_eq_true, decide_eq_true_eq] at this
      exact this
section
variable {X : Cx} {N : List Str} {sc : Scope}
theorem CF.blk (F : CF X N sc) {scope : Scope} {own : List (Str × Nat)} (h : blkC N sc scope own = true) : BlkOk X.N X.env.scope scope own := by
  rw [F.n, F.s]
  exact blkC_ok h
theorem CF.sub (F : CF X N sc) (s : Shared) (H : Hp) (scope : Scope) (cl : List (Str × Addr)) (Cc : Addr) (fp : List Addr) : CF (X.blk s H scope (compEnvC scope cl Cc X.env) fp) N (relS scope sc) := ⟨F.n, by rw [← F.s]; rfl⟩
/-- y = [..], y a local, on one line -/
theorem sw_yes (F : CF X N sc) (hb : X.env.blockKind = .function) {y : Str} {py : Pos} {elt : Expr} {gs : List Comprehension} {scope : Scope} {pos : Pos} {l : Nat} (h : sc.names.lookup y = some .local) (hl : (py.line == pos.line) = true) (hs : (scope.names.any fun q => q.1 == y && (q.2 == .local || q.2 == .cell)) = false) :
    swapsWith (.ListComp elt gs scope pos) (some (.Name y py)) l X.env = pure true := by
  have hk : X.env.kindOf y = some .local := by
    show X.env.scope.names.lookup y = _
    rw [F.s]
    exact h
  show (pure (X.env.blockKind == .function && X.env.kindOf y == some .local && (py.line == pos.line) && !(scope.names.any fun q => q.1 == y && (q.2 == .local || q.2 == .cell))) : Sem Bool) = _
  rw [hb, hk, hl, hs]
  rfl
theorem sw_cell (F : CF X N sc) {y : Str} {py : Pos} {elt : Expr} {gs : List Comprehension} {scope : Scope} {pos : Pos} {l : Nat} (h : sc.names.lookup y = some .cell) : swapsWith (.ListComp elt gs scope pos) (some (.Name y py)) l X.env = pure false := by
  have hk : X.env.kindOf y = some .cell := by
    show X.env.scope.names.lookup y = _
    rw [F.s]
    exact h
  show (pure (X.env.blockKind == .function && X.env.kindOf y == some .local && (py.line == pos.line) && !(scope.names.any fun q => q.1 == y && (q.2 == .local || q.2 == .cell))) : Sem Bool) = _
  rw [hk, show ((some NameKind.cell : Option NameKind) == some .local) = false from rfl]
  simp
theorem sw_line {y : Str} {py : Pos} {elt : Expr} {gs : List Comprehension} {scope : Scope} {pos : Pos} {l : Nat} (hl : (py.line == pos.line) = false) : swapsWith (.ListComp elt gs scope pos) (some (.Name y py)) l X.env = pure false := by
  show (pure (X.env.blockKind == .function && X.env.kindOf y == some .local && (py.line == pos.line) && !(scope.names.any fun q => q.1 == y && (q.2 == .local || q.2 == .cell))) : Sem Bool) = _
  rw [hl]
  simp
variable {e : Ev} {W : WX}
theorem ss_setC {i : Nat} {y : Str} {py : Pos} {elt tg iter : Expr} {ifs : List Expr} {scope : Scope} {own : List (Str × Nat)} {is : List Nat} {pos spos : Pos} {f : Mo (List D)} {t : D → So} {tt : Mo Bool} {el : Mo Sl} (C : EC X e W) (cm : X.calm = true) (F : CF X N sc) (hb : X.env.blockKind = .function)
    (hy : N[i]? = some y) (hyl : sc.names.lookup y = some .local) (hl : (py.line == pos.line) = true) (hn : (scope.names.any fun q => q.1 == y && (q.2 == .local || q.2 == .cell)) = false) (hi : PI X tg iter (tI e W f)) (ok : BlkOk X.N X.env.scope scope own) (his : ∀ j ∈ is, j ∈ own.map (·.2))
    (hg : ∀ (Y : Cx), EC Y e WF → Y.calm = true → (∃ (s : Shared) (H : Hp) (Cc : Addr) (cl : List (Str × Addr)) (fp : List Addr), Y = X.blk s H scope (compEnvC scope cl Cc X.env) fp) → PG Y tg (tgR e is t) ∧ PTs Y ifs (tT e WF tt) ∧ PE Y elt (tX e WF el))
    (hs : ∀ x, foldedSetIterable iter X.env x = pure x := by intro _; rfl) : PS X (.Assign [.Name y py] (.ListComp elt [⟨tg, iter, ifs, 0⟩] scope pos) spos) (tS e W (setS i (compX (own.map (·.2)) f t tt (frzD el)))) :=
  ss_asg (ps_setLc cm C.nd (F.ix hy) (F.ll hyl) (sw_yes F hb hyl hl hn) hi ok (fun s H Cc cl fp => (hg _ (C.blk s H scope _ fp) cm ⟨s, H, Cc, cl, fp, rfl⟩).1) (fun s H Cc cl fp => (hg _ (C.blk s H scope _ fp) cm ⟨s, H, Cc, cl, fp, rfl⟩).2.1) (fun s H Cc cl fp => xd_of (hg _ (C.blk s H scope _ fp) cm ⟨s, H, Cc, cl, fp, rfl⟩).2.2) hs)
    fun σ H Q h => comp_core (K := e.K) his h
/-- y = e, for a comprehension e that is stored plainly -/
theorem ss_setP {i : Nat} {y : Str} {ex : Expr} {f : Mo Sl} {pos pos' : Pos} (C : EC X e W) (F : CF X N sc) (hi : N[i]? = some y) (hx : Loc sc y) (he : PE X ex (tX e W f)) (hs : swapsWith ex (some (.Name y pos')) pos.line X.env = pure false) (hf : X.fn y = true ∨ X.env.scope.names.lookup y = some .local) :
    PS X (.Assign [.Name y pos'] ex pos) (tS e W (setS i f)) := ss_set C.nd (F.ix hi) (F.lo hx) he hs hf
/-- a module's number, text -/
theorem xo_gint {x : Str} {n : Int} {pos : Pos} (hg : Gl X x) (hm : ∃ t, X.mg x = some (.int n t)) (hd : (x == ("__debug__" : Str)) = false := by decide) : PE X (.Name x pos) (tO e W (cO (.int n))) := by
  obtain ⟨t, h⟩ := hm
  exact xo_con (pe_glob (v := .int n) hg h ⟨t, rfl⟩ hd) fun _ => .int n
theorem xo_gstr {x : Str} {z : Str} {pos : Pos} (hg : Gl X x) (hm : ∃ t, X.mg x = some (.str z t)) (hd : (x == ("__debug__" : Str)) = false := by decide) : PE X (.Name x pos) (tO e W (cO (.str z))) := by
  obtain ⟨t, h⟩ := hm
  exact xo_con (pe_glob (v := .str z) hg h ⟨t, rfl⟩ hd) fun _ => .str z
theorem xo_gref {x : Str} {a : Addr} {d : D} {pos : Pos} (hg : Gl X x) (hm : X.mg x = some (.ref a)) (r : ∀ G, DR e G (.ref a) d) (hd : (x == ("__debug__" : Str)) = false := by decide) : PE X (.Name x pos) (tO e W (cO d)) :=
  xo_con (pe_glob (v := .ref a) hg hm rfl hd) r
theorem xo_gty {x : Str} {n : String} {pos : Pos} (hg : Gl X x) (hm : X.mg x = none) (hv : bootBuiltins x = some (.type n)) (hn : x ≠ "__name__" := by decide) (hd : (x == ("__debug__" : Str)) = false := by decide) : PE X (.Name x pos) (tO e W (cO (.ty n))) :=
  xo_con (pe_bltn (v := .ty n) hg hm hv rfl hn hd) fun _ => .ty n
end
end L2.WD
/-! The data layer, part 17: short forms for a text that a program prints. -/
namespace L2.WD
open PySem PySem.Spec PySem.Calls PyProof.Rows
def visB (sc : Scope) (x : Str) : Bool := match sc.names.lookup x with
  | some .local => true
  | some .cell => true
  | some .free => true
  | _ => false
def locB (sc : Scope) (x : Str) : Bool := match sc.names.lookup x with
  | some .local => true
  | some .cell => true
  | _ => false
def glB (sc : Scope) (x : Str) : Bool := (match sc.names.lookup x with
  | some .globalImplicit => true
  | _ => false) && !(x == ("__debug__" : Str))
def atB (N : List Str) (i : Nat) (x : Str) : Bool := decide (N[i]? = some x)
def nmB (N : List Str) (sc : Scope) (i : Nat) (x : Str) : Bool := atB N i x && (visB sc x && (!(x == ("__debug__" : Str)) && !(x == ("__classdict__" : Str))))
def stB (N : List Str) (sc : Scope) (i : Nat) (x : Str) : Bool := atB N i x && locB sc x
theorem visB_ok {sc : Scope} {x : Str} (h : visB sc x = true) : Vis sc x := by
  unfold visB at h
  split at h
  · exact .inl (by assumption)
  · exact .inr (.inl (by assumption))
  · exact .inr (.inr (by assumption))
  · cases h
theorem locB_ok {sc : Scope} {x : Str} (h : locB sc x = true) : Loc sc x := by
  unfold locB at h
  split at h
  · exact .inl (by assumption)
  · exact .inr (by assumption)
  · cases h
theorem glB_ok {sc : Scope} {x : Str} (h : glB sc x = true) : sc.names.lookup x = some .globalImplicit ∧ (x == ("__debug__" : Str)) = false := by
  unfold glB at h
  obtain ⟨h1, h2⟩ := He.ba h
  refine ⟨?_, by simpa using h2⟩
  split at h1
  · assumption
  · cases h1
section
variable {X : Cx} {N : List Str} {sc : Scope} {x : Str} {pos : Pos} {i : Nat} {e : Ev} {W : WX}
theorem pn (F : CF X N sc) (i : Nat) (h : nmB N sc i x = true) : PE X (.Name x pos) (tVar i) := by
  obtain ⟨h1, h2⟩ := He.ba h
  obtain ⟨h3, h4⟩ := He.ba h2
  obtain ⟨h5, h6⟩ := He.ba h4
  exact pv F i (of_decide_eq_true h1) (visB_ok h3) (by simpa using h5) (by simpa using h6)
theorem CF.g (F : CF X N sc) (h : glB sc x = true) : Gl X x := F.gl (glB_ok h).1
theorem dbg (h : glB sc x = true) : (x == ("__debug__" : Str)) = false := (glB_ok h).2
theorem EC.gm {v : Option Value} (C : EC X e W) (h : e.mg x = v) : X.mg x = v := by rw [C.mg]; exact h
/-- where a context stands -/
structure At (X : Cx) (P : Program) (w : World) (base : Heap) : Prop where
  p : X.prog = P
  w : X.w = w
  b : X.base = base
theorem Ok.at {P : Program} {w : World} {base : Heap} {d : He.DefD} {k : Nat} {ps : List Str} {Fn : Mo Sl} {fd : FuncData} (O : Ok P w e base d k ps Fn fd) (C : EC X e W) (T : At X P w base) :
    FnOk X.prog X.w X.K X.mg X.base (L2.CX X.prog X.w) k (He.fAd e.K d.at_) fd ps (spD e ps.length Fn) := by
  rw [T.p, T.w, T.b, C.K, C.mg]
  exact O.fn
theorem OkX.at {P : Program} {w : World} {base : Heap} {d : He.DefD} {k : Nat} {c : Addr} {f px : Str} {fd : FuncData} (O : OkX P w e base d k c f px fd) (C : EC X e W) (T : At X P w base) :
    FnOk X.prog X.w X.K X.mg X.base (L2.CX X.prog X.w) k (He.fAd e.K d.at_) fd ["self", px] (spXI c f) := by
  rw [T.p, T.w, T.b, C.K, C.mg]
  exact O.fn
theorem CF.subY {Y : Cx} {scope : Scope} (F : CF X N sc) (hY : ∃ (s : Shared) (H : Hp) (Cc : Addr) (cl : List (Str × Addr)) (fp : List Addr), Y = X.blk s H scope (compEnvC scope cl Cc X.env) fp) : CF Y N (relS scope sc) := by
  obtain ⟨s, H, Cc, cl, fp, rfl⟩ := hY
  exact F.sub s H scope cl Cc fp
theorem At.subY {Y : Cx} {scope : Scope} {P : Program} {w : World} {base : Heap} (T : At X P w base) (hY : ∃ (s : Shared) (H : Hp) (Cc : Addr) (cl : List (Str × Addr)) (fp : List Addr), Y = X.blk s H scope (compEnvC scope cl Cc X.env) fp) : At Y P w base := by
  obtain ⟨s, H, Cc, cl, fp, rfl⟩ := hY
  exact ⟨T.p, T.w, T.b⟩
theorem roomY {Y : Cx} {scope : Scope} {k : Nat} (r : Room k X.A) (hY : ∃ (s : Shared) (H : Hp) (Cc : Addr) (cl : List (Str × Addr)) (fp : List Addr), Y = X.blk s H scope (compEnvC scope cl Cc X.env) fp) : Room k Y.A := by
  obtain ⟨s, H, Cc, cl, fp, rfl⟩ := hY
  exact r
theorem CF.tr (F : CF X N sc) (pn1 : List (Addr × Obj)) (xe1 : Value → Shared → Prop) : CF (X.tr pn1 xe1) N sc := ⟨F.n, F.s⟩
theorem CF.suite (F : CF X N sc) (a : Addr) (pn1 : List (Addr × Obj)) : CF (X.suite a pn1) N sc := ⟨F.n, F.s⟩
theorem At.tr {P : Program} {w : World} {base : Heap} (T : At X P w base) (pn1 : List (Addr × Obj)) (xe1 : Value → Shared → Prop) : At (X.tr pn1 xe1) P w base := ⟨T.p, T.w, T.b⟩
theorem room_tr {k : Nat} (r : Room k X.A) (pn1 : List (Addr × Obj)) (xe1 : Value → Shared → Prop) : Room k (X.tr pn1 xe1).A := r
theorem calm_tr (c : X.calm = true) (pn1 : List (Addr × Obj)) (xe1 : Value → Shared → Prop) : (X.tr pn1 xe1).calm = true := c
theorem hf_tr (c : ∀ x, X.fn x = true) (pn1 : List (Addr × Obj)) (xe1 : Value → Shared → Prop) : ∀ x, (X.tr pn1 xe1).fn x = true := c
theorem hf_su (c : ∀ x, X.fn x = true) (a : Addr) (pn1 : List (Addr × Obj)) : ∀ x, (X.suite a pn1).fn x = true := c
/-- a def that is called by name -/
theorem xc {P : Program} {w : World} {base : Heap} {d : He.DefD} {k k0 : Nat} {ps : List Str} {Fn : Mo Sl} {fd : FuncData} {a : Expr} {es : List Expr} {p : Pos} {dvs : List V} {more : List D} {f : Mo (List Ar)} {n : Nat}
    (C : EC X e W) (T : At X P w base) (r : Room k0 X.A) (F : CF X N sc) (O : Ok P w e base d k ps Fn fd) (b : ∃ ds, Vals dvs ds ∧ Binds e.K fd ps ds) (hm : e.mg x = some (.ref (He.fAd e.K d.at_))) (hk : k ≤ k0) (hg : glB sc x = true) (hdd : ∀ G, DRs e G dvs more)
    (ha : PA X (a :: es) (tA e W f)) (hn : LenA f n) (hl : n + more.length = ps.length) (he : starEach (a :: es) X.env = (false, eval a X.env) :: starEach es X.env := by rfl) (hpl : (backTo pos (starEach es X.env)).any (·.1) = false := by rfl) :
    PE X (.Call (.Name x p) (a :: es) [] pos) (tX e W (callX Fn more f)) := by
  obtain ⟨ds, hv, hb⟩ := b
  exact xx_call (m := ps.length) C (O.at C T) (r.mono hk) (F.g hg) (C.gm hm) (by rw [C.K]; exact O.fd.kp) (by rw [C.K]; exact hb) hv hdd ha (callLen hn hl) (dbg hg) he hpl
/-- an instance is made by name -/
theorem xm {P : Program} {w : World} {base : Heap} {d : He.DefD} {k k0 c : Nat} {ps : List Str} {Fn : Mo Sl} {fd : FuncData} {a : Expr} {es : List Expr} {p : Pos} {dvs : List V} {more : List D} {f : Mo (List Ar)} {n : Nat}
    (C : EC X e W) (T : At X P w base) (r : Room k0 X.A) (F : CF X N sc) (O : Ok P w e base d k ps Fn fd) (b : ∃ ds, Vals dvs ds ∧ Binds e.K fd ps ds) (M : Mk e.K (e.ca c) (He.fAd e.K d.at_)) (hm : e.mg x = some (.ref (e.ca c))) (hk : k + 1 ≤ k0) (hg : glB sc x = true) (hdd : ∀ G, DRs e G dvs more)
    (ha : PA X (a :: es) (tA e W f)) (hn : LenA f n) (hl : n + more.length + 1 = ps.length) (he : starEach (a :: es) X.env = (false, eval a X.env) :: starEach es X.env := by rfl) (hpl : (backTo pos (starEach es X.env)).any (·.1) = false := by rfl) :
    PE X (.Call (.Name x p) (a :: es) [] pos) (tX e W (mkX c Fn more f)) := by
  obtain ⟨ds, hv, hb⟩ := b
  have Fk := O.at C T
  rw [← hl] at Fk
  exact xx_make (n := n) C M Fk (r.mono hk) (F.g hg) (C.gm hm) (by rw [C.K]; exact hb) hv hdd ha hn (dbg hg) he hpl
/-- a method -/
theorem xme {P : Program} {w : World} {base : Heap} {d : He.DefD} {k k0 c : Nat} {ps : List Str} {Fn : Mo Sl} {fd : FuncData} {o a : Expr} {es : List Expr} {apos : Pos} {dvs : List V} {more : List D} {fo : Mo Ar} {f : Mo (List Ar)} {n : Nat} {m : Str} {pl : Sem Bool}
    (C : EC X e W) (T : At X P w base) (r : Room k0 X.A) (O : Ok P w e base d k ps Fn fd) (b : ∃ ds, Vals dvs ds ∧ Binds e.K fd ps ds) (hc : Cls e.K (e.ca c)) (hm : Meth e.K (e.ca c) m (He.fAd e.K d.at_)) (hk : k ≤ k0) (hdd : ∀ G, DRs e G dvs more)
    (ho : PE X o (tO e W fo)) (ha : PA X (a :: es) (tA e W f)) (hn : LenA f n) (hl : n + more.length + 1 = ps.length) (hst : starEach (a :: es) X.env = (false, eval a X.env) :: starEach es X.env := by rfl) (hpl : (backTo pos (starEach es X.env)).any (·.1) = false := by rfl)
    (ht : eval (.Call (.Attribute o m apos) (a :: es) [] pos) X.env = (do
      let ov ← eval o X.env
      standAt apos.atName
      let (f, first) ← holding [ov] (getMethod ov m pl)
      callWith pos f first (backTo pos (starEach (a :: es) X.env)) (backToKw pos (keywordEach [] X.env))) := by rfl) :
    PE X (.Call (.Attribute o m apos) (a :: es) [] pos) (tX e W (methX c m Fn more fo f)) := by
  obtain ⟨ds, hv, hb⟩ := b
  have Fk := O.at C T
  rw [← hl] at Fk
  exact xx_meth (pl := pl) (n := n) C hc hm Fk (r.mono hk) (by rw [C.K]; exact hb) hv hdd ho ha hn hst hpl ht
theorem xme0 {P : Program} {w : World} {base : Heap} {d : He.DefD} {k k0 c : Nat} {ps : List Str} {Fn : Mo Sl} {fd : FuncData} {o : Expr} {apos : Pos} {dvs : List V} {more : List D} {fo : Mo Ar} {m : Str} {pl : Sem Bool}
    (C : EC X e W) (T : At X P w base) (r : Room k0 X.A) (O : Ok P w e base d k ps Fn fd) (b : ∃ ds, Vals dvs ds ∧ Binds e.K fd ps ds) (hc : Cls e.K (e.ca c)) (hm : Meth e.K (e.ca c) m (He.fAd e.K d.at_)) (hk : k ≤ k0) (hdd : ∀ G, DRs e G dvs more)
    (ho : PE X o (tO e W fo)) (hl : 0 + more.length + 1 = ps.length)
    (ht : eval (.Call (.Attribute o m apos) [] [] pos) X.env = (do
      let ov ← eval o X.env
      standAt apos.atName
      let (f, first) ← holding [ov] (getMethod ov m pl)
      callWith pos f first (backTo pos (starEach [] X.env)) (backToKw pos (keywordEach [] X.env))) := by rfl) :
    PE X (.Call (.Attribute o m apos) [] [] pos) (tX e W (methX c m Fn more fo nilA)) := by
  obtain ⟨ds, hv, hb⟩ := b
  have Fk := O.at C T
  rw [← hl] at Fk
  exact xx_meth0 (pl := pl) C hc hm Fk (r.mono hk) (by rw [C.K]; exact hb) hv hdd ho ht
/-- a def called by keywords alone -/
theorem xk0 {P : Program} {w : World} {base : Heap} {d : He.DefD} {k k0 : Nat} {ps ks : List Str} {Fn : Mo Sl} {fd : FuncData} {kws : List Keyword} {p : Pos} {dvs : List V} {more : List D} {perm : List Nat} {fk : Mo (List Ar)}
    (C : EC X e W) (T : At X P w base) (r : Room k0 X.A) (F : CF X N sc) (O : Ok P w e base d k ps Fn fd) (b : ∃ g, KBn e.K fd ps 0 ks g (fun vs zs => selL perm (vs ++ zs ++ dvs))) (hm : e.mg x = some (.ref (He.fAd e.K d.at_))) (hk : k ≤ k0) (hg : glB sc x = true) (hdd : ∀ G, DRs e G dvs more)
    (hkw : PK X kws (tA e W fk)) (hkn : LenA fk ks.length) (hp : ∀ i ∈ perm, i < 0 + ks.length + more.length) (hl : perm.length = ps.length)
    (hall : (backToKw pos (keywordEach kws X.env)).all (·.1.isSome) = true := by rfl) (hks : (backToKw pos (keywordEach kws X.env)).filterMap (·.1) = ks := by rfl)
    (hpl : ((backTo pos (starEach [] X.env)).any (·.1) || (backToKw pos (keywordEach kws X.env)).any (·.1.isNone)) = false := by rfl) :
    PE X (.Call (.Name x p) [] kws pos) (tX e W (kwX Fn perm more nilA fk)) := by
  obtain ⟨g, hb⟩ := b
  exact xx_callK0 (m := ps.length) C (O.at C T) (r.mono hk) (F.g hg) (C.gm hm) (by rw [C.K]; exact O.fd.kp) (by rw [C.K]; exact hb) hdd hkw hkn hp hl hall hks (dbg hg) hpl
theorem xk1 {P : Program} {w : World} {base : Heap} {d : He.DefD} {k k0 n : Nat} {ps ks : List Str} {Fn : Mo Sl} {fd : FuncData} {a : Expr} {es : List Expr} {kws : List Keyword} {p : Pos} {dvs : List V} {more : List D} {perm : List Nat} {fa fk : Mo (List Ar)}
    (C : EC X e W) (T : At X P w base) (r : Room k0 X.A) (F : CF X N sc) (O : Ok P w e base d k ps Fn fd) (b : ∃ g, KBn e.K fd ps n ks g (fun vs zs => selL perm (vs ++ zs ++ dvs))) (hm : e.mg x = some (.ref (He.fAd e.K d.at_))) (hk : k ≤ k0) (hg : glB sc x = true) (hdd : ∀ G, DRs e G dvs more)
    (ha : PA X (a :: es) (tA e W fa)) (hkw : PK X kws (tA e W fk)) (hn : LenA fa n) (hkn : LenA fk ks.length) (hp : ∀ i ∈ perm, i < n + ks.length + more.length) (hl : perm.length = ps.length)
    (hall : (backToKw pos (keywordEach kws X.env)).all (·.1.isSome) = true := by rfl) (hks : (backToKw pos (keywordEach kws X.env)).filterMap (·.1) = ks := by rfl)
    (he : starEach (a :: es) X.env = (false, eval a X.env) :: starEach es X.env := by rfl)
    (hpl : ((backTo pos (starEach (a :: es) X.env)).any (·.1) || (backToKw pos (keywordEach kws X.env)).any (·.1.isNone)) = false := by rfl) :
    PE X (.Call (.Name x p) (a :: es) kws pos) (tX e W (kwX Fn perm more fa fk)) := by
  obtain ⟨g, hb⟩ := b
  exact xx_callK (m := ps.length) C (O.at C T) (r.mono hk) (F.g hg) (C.gm hm) (by rw [C.K]; exact O.fd.kp) (by rw [C.K]; exact hb) hdd ha hkw hn hkn hp hl hall hks (dbg hg) he hpl
/-- y = e in a def -/
theorem ssx {ex : Expr} {f : Mo Sl} {pos' : Pos} (C : EC X e W) (F : CF X N sc) (hf : ∀ x, X.fn x = true) (h : stB N sc i x = true) (he : PE X ex (tX e W f)) (hs : swapsWith ex (some (.Name x pos')) pos.line X.env = pure false := by rfl) : PS X (.Assign [.Name x pos'] ex pos) (tS e W (setS i f)) := by
  obtain ⟨h1, h2⟩ := He.ba h
  exact ss_set C.nd (F.ix (of_decide_eq_true h1)) (F.lo (locB_ok h2)) he hs (.inl (hf _))
theorem sgx (C : EC X e W) (F : CF X N sc) (hf : ∀ x, X.fn x = true) (i : Nat) (h : stB N sc i x = true) : PG X (.Name x pos) (tgR e [i] (gN i)) := by
  obtain ⟨h1, h2⟩ := He.ba h
  exact sg_name C.nd (F.ix (of_decide_eq_true h1)) (F.lo (locB_ok h2)) (.inl (hf _))
/-- a block's own name -/
theorem sgb (C : EC X e W) (F : CF X N sc) (i : Nat) (h : (atB N i x && decide (sc.names.lookup x = some .local)) = true) : PG X (.Name x pos) (tgR e [i] (gN i)) := by
  obtain ⟨h1, h2⟩ := He.ba h
  exact sg_name C.nd (F.ix (of_decide_eq_true h1)) (F.lo (.inl (of_decide_eq_true h2))) (.inr (F.ll (of_decide_eq_true h2)))
/-- y = [.. for ..] on one line, y a plain local -/
theorem ssc {y : Str} {py : Pos} {elt tg iter : Expr} {ifs : List Expr} {scope : Scope} {own : List (Str × Nat)} {is : List Nat} {pos spos : Pos} {f : Mo (List D)} {t : D → So} {tt : Mo Bool} {el : Mo Sl} (C : EC X e W) (cm : X.calm = true) (F : CF X N sc) (hb : X.env.blockKind = .function)
    (hc : (atB N i y && (decide (sc.names.lookup y = some .local) && ((py.line == pos.line) && !(scope.names.any fun q => q.1 == y && (q.2 == .local || q.2 == .cell))))) = true) (hi : PI X tg iter (tI e W f)) (ok : BlkOk X.N X.env.scope scope own) (his : ∀ j ∈ is, j ∈ own.map (·.2))
    (hg : ∀ (Y : Cx), EC Y e WF → Y.calm = true → (∃ (s : Shared) (H : Hp) (Cc : Addr) (cl : List (Str × Addr)) (fp : List Addr), Y = X.blk s H scope (compEnvC scope cl Cc X.env) fp) → PG Y tg (tgR e is t) ∧ PTs Y ifs (tT e WF tt) ∧ PE Y elt (tX e WF el))
    (hs : ∀ x, foldedSetIterable iter X.env x = pure x := by intro _; rfl) : PS X (.Assign [.Name y py] (.ListComp elt [⟨tg, iter, ifs, 0⟩] scope pos) spos) (tS e W (setS i (compX (own.map (·.2)) f t tt (frzD el)))) := by
  obtain ⟨h1, hc⟩ := He.ba hc
  obtain ⟨h2, hc⟩ := He.ba hc
  obtain ⟨h3, h4⟩ := He.ba hc
  exact ss_setC C cm F hb (of_decide_eq_true h1) (of_decide_eq_true h2) h3 (by simpa using h4) hi ok his hg hs
end
/-! ### what isn't reached -/
def badX {α : Type} : Mo α := fun _ => .bad
def badS : So := fun _ => .bad
section
variable {X : Cx} {e : Ev} {W : WX} {ex : Expr} {st : Stmt}
theorem xx_bad : PE X ex (tX e W badX) := ⟨fun _ _ _ _ _ _ ⟨_, _, _, _, p⟩ => p.elim⟩
theorem ss_bad : PS X st (tS e W badS) := ⟨fun _ _ _ _ _ _ ⟨_, _, _, _, p⟩ => p.elim⟩
end
/-! ### more short forms -/
section
variable {X : Cx} {N : List Str} {sc : Scope} {x : Str} {pos : Pos} {i : Nat} {e : Ev} {W : WX}
/-- a name's things, as an operand: they stay from here on -/
def frO (i : Nat) : Mo Ar := Mo.bind (frD i) fun d ρ => .ok ρ (.vl d)
theorem xo_fr (h : PE X (.Name x pos) (tVar i)) : PE X (.Name x pos) (tO e W (frO i)) := (xd_nm (e := e) (W := W) h).imp fun σ H Q ⟨Fo, G, ρ, R, p⟩ =>
tG.mono (Post.bind R p) fun v H1 ⟨G1, ρ1, d, g1, R1, r1, p1⟩ => p1.here R1 r1
theorem x0 {c j : Nat} {m : Str} {p p2 pos2 : Pos} {B newId initId : String} {tl : List Value} (C : EC X e W) (cm : X.calm = true) (Fm : Fam B newId initId tl) (q : exc0B e.K tl newId (e.ca c) = true) (F : CF X N sc) (gC : e.mg x = some (.ref (e.ca c))) (hg : glB sc x = true) :
    PS X (.Raise (some (.Call (.Name x p) [.Constant (.str m) j p2] [] pos)) none pos2) (tS e W (raiseS0 c)) := by
  obtain ⟨h1, q⟩ := He.ba q
  obtain ⟨h2, q⟩ := He.ba q
  obtain ⟨h3, h4⟩ := He.ba q
  exact ss_raise0 C cm Fm.base h1 h2 (of_decide_eq_true h3) (of_decide_eq_true h4) (F.g hg) gC (dbg hg)
theorem x1 {P : Program} {w : World} {base : Heap} {d : He.DefD} {c k k0 : Nat} {f px : Str} {a : Expr} {p pos2 : Pos} {B newId initId : String} {tl : List Value} {fn : FuncData} {fd : Mo D} (C : EC X e W) (cm : X.calm = true) (Fm : Fam B newId initId tl) (T : At X P w base) (r : Room k0 X.A)
    (q : oexB e.K tl newId (e.ca c) = true) (O : OkX P w e base d k (e.ca c) f px fn) (q2 : iniB e.K (e.ca c) (He.fAd e.K d.at_) = true) (F : CF X N sc) (gC : e.mg x = some (.ref (e.ca c))) (hk : k + 1 ≤ k0) (hg : glB sc x = true)
    (ha : PE X a (tD e W fd)) (he : starEach [a] X.env = (false, eval a X.env) :: starEach [] X.env := by rfl) : PS X (.Raise (some (.Call (.Name x p) [a] [] pos)) none pos2) (tS e W (raiseS1 c f fd)) := by
  obtain ⟨h1, h2⟩ := He.ba q2
  exact ss_raise1 C cm Fm (oexB_ok q) (of_decide_eq_true h1) (of_decide_eq_true h2) (O.at C T) (r.mono hk) (by rw [C.K]; exact O.b) (F.g hg) gC ha (dbg hg) he
theorem attExc {c : Nat} {f : Str} (h : excB e.K (e.ca c) = true) (h2 : noB e.K (e.ca c) f = true) : AttOk e f c true := by
  have T := excB_ok h
  unfold excB at h
  obtain ⟨k1, h⟩ := He.ba h
  obtain ⟨k2, h⟩ := He.ba h
  obtain ⟨k3, h⟩ := He.ba h
  obtain ⟨k4, h⟩ := He.ba h
  exact .exc (of_decide_eq_true k1) (of_decide_eq_true k2) (of_decide_eq_true k3) k4 (show PySem.W.findIn e.K (.ref (e.ca c)) f = some none from of_decide_eq_true h2)
theorem CF.kd (F : CF X N sc) (h : decide (sc.names.lookup x = some .local) = true) : X.env.kindOf x = some .local := F.ll (of_decide_eq_true h)
theorem names_ok {a : Addr} (F : CF X N sc) (hm : X.mg x = some (.ref a)) (hg : glB sc x = true) : Names X x (.ref a) := ⟨F.g hg, dbg hg, .inl hm⟩
end
end L2.WD
/-! The data layer, part 18: a, b = x, y. -/
namespace L2.WD
open PySem PySem.Spec PySem.Calls PyProof.Rows
def starred (e : Expr) : Bool := match e with
  | .Starred .. => true
  | _ => false
def par2B (px py : Pos) (x y : Str) (a b : Expr) : Bool := !starred a && (!starred b && (px.line == py.line && (!(x == y) && (!([a, b].all (foldedForSure 8)) && !([a, b].all (constantsAlone 8))))))
def par3B (px py pz : Pos) (x y z : Str) (a b c : Expr) : Bool := !starred a && (!starred b && (!starred c && (px.line == py.line && (px.line == pz.line && (decide ([x, y, z].eraseDups.length = 3) && (!([a, b, c].all (foldedForSure 8)) && !([a, b, c].all (constantsAlone 8))))))))
section
variable {X : Cx} {x y z : Str} {px py pz pt pos : Pos} {kt k2 : Nat} {pt2 : Pos} {a b c : Expr}
theorem sw2 (hb : X.env.blockKind = .function) (hx : X.env.kindOf x = some .local) (hy : X.env.kindOf y = some .local) (h : par2B px py x y a b = true) :
    swappedStores [.Tuple [.Name x px, .Name y py] kt pt] (.Tuple [a, b] k2 pt2) X.env = pure (some [x, y]) := by
  unfold par2B at h
  obtain ⟨h1, h⟩ := He.ba h
  obtain ⟨h2, h⟩ := He.ba h
  obtain ⟨h3, h⟩ := He.ba h
  obtain ⟨h4, h⟩ := He.ba h
  obtain ⟨h5, h6⟩ := He.ba h
  have e1 : starred a = false := by simpa only [Bool.not_eq_true'] using h1
  have e2 : starred b = false := by simpa only [Bool.not_eq_true'] using h2
  have e3 : px.line = py.line := by simpa using h3
  have e4 : ¬ x = y := by simpa using h4
  have e4' : ¬ y = x := fun z => e4 z.symm
  have e5 : [a, b].all (foldedForSure 8) = false := by simpa only [Bool.not_eq_true'] using h5
  have e6 : [a, b].all (constantsAlone 8) = false := by simpa only [Bool.not_eq_true'] using h6
  unfold swappedStores
  simp only [e5, e6, hb]
  simp [hx, hy, e3, e4, e4', List.filterMap, List.eraseDups_cons, Expr.pos, bne]
  show (starred a = true ∨ starred b = true) → _
  rw [e1, e2]
  rintro (z | z) <;> cases z
theorem sw3 (hb : X.env.blockKind = .function) (hx : X.env.kindOf x = some .local) (hy : X.env.kindOf y = some .local) (hz : X.env.kindOf z = some .local) (h : par3B px py pz x y z a b c = true) :
    swappedStores [.Tuple [.Name x px, .Name y py, .Name z pz] kt pt] (.Tuple [a, b, c] k2 pt2) X.env = pure (some [x, y, z]) := by
  unfold par3B at h
  obtain ⟨h1, h⟩ := He.ba h
  obtain ⟨h2, h⟩ := He.ba h
  obtain ⟨h2', h⟩ := He.ba h
  obtain ⟨h3, h⟩ := He.ba h
  obtain ⟨h3', h⟩ := He.ba h
  obtain ⟨h4, h⟩ := He.ba h
  obtain ⟨h5, h6⟩ := He.ba h
  have e1 : starred a = false := by simpa only [Bool.not_eq_true'] using h1
  have e2 : starred b = false := by simpa only [Bool.not_eq_true'] using h2
  have e2' : starred c = false := by simpa only [Bool.not_eq_true'] using h2'
  have e3 : px.line = py.line := by simpa using h3
  have e3' : px.line = pz.line := by simpa using h3'
  have e4 : [x, y, z].eraseDups.length = 3 := of_decide_eq_true h4
  have e5 : [a, b, c].all (foldedForSure 8) = false := by simpa only [Bool.not_eq_true'] using h5
  have e6 : [a, b, c].all (constantsAlone 8) = false := by simpa only [Bool.not_eq_true'] using h6
  unfold swappedStores
  simp only [e5, e6, hb]
  simp [hx, hy, hz, ← e3, ← e3', e4, List.filterMap, Expr.pos, bne]
  show (starred a = true ∨ starred b = true ∨ starred c = true) → _
  rw [e1, e2, e2']
  rintro (z | z | z) <;> cases z
end
def free2 (ρ : List Sl) (i j : Nat) : Bool := free ρ i && free ρ j
/-- a, b = x, y -/
def parS (i j : Nat) (f : Mo (List D)) : So := bindS f fun ds ρ => match ds with
  | [d1, d2] => if free2 ρ i j = true then .nx ((ρ.set i (.fz d1)).set j (.fz d2)) else .bad
  | _ => .bad
def parS3 (i j l : Nat) (f : Mo (List D)) : So := bindS f fun ds ρ => match ds with
  | [d1, d2, d3] => if (free2 ρ i j && free ρ l) = true then .nx (((ρ.set i (.fz d1)).set j (.fz d2)).set l (.fz d3)) else .bad
  | _ => .bad
section
variable {X : Cx} {N : List Str} {sc : Scope} {x y z : Str} {i j l : Nat} {e : Ev} {W : WX} {px py pz pt pos : Pos} {kt k2 : Nat} {pt2 : Pos} {a b c : Expr} {f : Mo (List D)}
theorem free_set {ρ : List Sl} {i j : Nat} {d : D} (h : free ρ j = true) : free (ρ.set i (.fz d)) j = true := by
  unfold free at *
  by_cases q : i = j
  · subst q
    cases k : ρ[i]? with
    | none => rw [k] at h; cases h
    | some s =>
      have hl : i < ρ.length := (List.getElem?_eq_some_iff.mp k).1
      simp [List.getElem?_set, hl, Sl.mine]
  · rw [List.getElem?_set_ne q]
    exact h
theorem ss_par (C : EC X e W) (cm : X.calm = true) (F : CF X N sc) (hb : X.env.blockKind = .function) (ha : PA X [a, b] (tAD e W f))
    (h : (stB N sc i x && (stB N sc j y && (decide (sc.names.lookup x = some .local) && (decide (sc.names.lookup y = some .local) && (!(i == j) && par2B px py x y a b))))) = true)
    (hs : swapsWithSole [.Tuple [.Name x px, .Name y py] kt pt] (.Tuple [a, b] k2 pt2) pos.line X.env = pure false := by rfl) :
    PS X (.Assign [.Tuple [.Name x px, .Name y py] kt pt] (.Tuple [a, b] k2 pt2) pos) (tS e W (parS i j f)) := by
  obtain ⟨h1, h⟩ := He.ba h
  obtain ⟨h2, h⟩ := He.ba h
  obtain ⟨h3, h⟩ := He.ba h
  obtain ⟨h4, h⟩ := He.ba h
  obtain ⟨h5, h6⟩ := He.ba h
  have lx := F.ll (of_decide_eq_true h3)
  have ly := F.ll (of_decide_eq_true h4)
  refine (ps_par cm C.nd (F.ix (of_decide_eq_true (He.ba h1).1)) (F.ix (of_decide_eq_true (He.ba h2).1)) (by simpa using h5) lx ly ha (sw2 hb lx ly h6) hs).imp fun En σ H ⟨Fo, G, ρ, R, p⟩ => ?_
  refine tG.mono (PostS.bind R p) fun vs H1 ⟨G1, ρ1, ds, g1, R1, r1, _, p1⟩ => ?_
  match ds, r1, p1 with
  | [d1, d2], .cons (v := v1) q1 (.cons (v := v2) q2 .nil), p1 =>
    refine ⟨v1, v2, rfl, ?_⟩
    have p1 : PostS e W Fo G1 σ ρ1 (if (free ρ1 i && free ρ1 j) = true then Out.nx ((ρ1.set i (Sl.fz d1)).set j (Sl.fz d2)) else Out.bad) En := p1
    by_cases c1 : (free ρ1 i && free ρ1 j) = true
    · rw [if_pos c1] at p1
      obtain ⟨c1, c2⟩ := He.ba c1
      exact p1 G1 _ H1 (L2.Same.refl _) ((free_keep c1).trans (free_keep (free_set c2))) ((R1.put (.fz q1)).put (.fz q2))
    · rw [if_neg c1] at p1
      exact p1.elim
  | [], _, p1 => exact p1.elim
  | [_], _, p1 => exact p1.elim
  | _ :: _ :: _ :: _, _, p1 => exact p1.elim
theorem ss_par3 (C : EC X e W) (cm : X.calm = true) (F : CF X N sc) (hb : X.env.blockKind = .function) (ha : PA X [a, b, c] (tAD e W f))
    (h : (stB N sc i x && (stB N sc j y && (stB N sc l z && (decide (sc.names.lookup x = some .local) && (decide (sc.names.lookup y = some .local) && (decide (sc.names.lookup z = some .local) && (!(i == j) && (!(i == l) && (!(j == l) && par3B px py pz x y z a b c))))))))) = true)
    (hs : swapsWithSole [.Tuple [.Name x px, .Name y py, .Name z pz] kt pt] (.Tuple [a, b, c] k2 pt2) pos.line X.env = pure false := by rfl) :
    PS X (.Assign [.Tuple [.Name x px, .Name y py, .Name z pz] kt pt] (.Tuple [a, b, c] k2 pt2) pos) (tS e W (parS3 i j l f)) := by
  obtain ⟨h1, h⟩ := He.ba h
  obtain ⟨h2, h⟩ := He.ba h
  obtain ⟨h2', h⟩ := He.ba h
  obtain ⟨h3, h⟩ := He.ba h
  obtain ⟨h4, h⟩ := He.ba h
  obtain ⟨h4', h⟩ := He.ba h
  obtain ⟨h5, h⟩ := He.ba h
  obtain ⟨h5', h⟩ := He.ba h
  obtain ⟨h5'', h6⟩ := He.ba h
  have lx := F.ll (of_decide_eq_true h3)
  have ly := F.ll (of_decide_eq_true h4)
  have lz := F.ll (of_decide_eq_true h4')
  refine (ps_par3 cm C.nd (F.ix (of_decide_eq_true (He.ba h1).1)) (F.ix (of_decide_eq_true (He.ba h2).1)) (F.ix (of_decide_eq_true (He.ba h2').1)) (by simpa using h5) (by simpa using h5') (by simpa using h5'') lx ly lz ha (sw3 hb lx ly lz h6) hs).imp fun En σ H ⟨Fo, G, ρ, R, p⟩ => ?_
  refine tG.mono (PostS.bind R p) fun vs H1 ⟨G1, ρ1, ds, g1, R1, r1, _, p1⟩ => ?_
  match ds, r1, p1 with
  | [d1, d2, d3], .cons (v := v1) q1 (.cons (v := v2) q2 (.cons (v := v3) q3 .nil)), p1 =>
    refine ⟨v1, v2, v3, rfl, ?_⟩
    have p1 : PostS e W Fo G1 σ ρ1 (if (free ρ1 i && free ρ1 j && free ρ1 l) = true then Out.nx (((ρ1.set i (Sl.fz d1)).set j (Sl.fz d2)).set l (Sl.fz d3)) else Out.bad) En := p1
    by_cases c1 : (free ρ1 i && free ρ1 j && free ρ1 l) = true
    · rw [if_pos c1] at p1
      obtain ⟨c1, c3⟩ := He.ba c1
      obtain ⟨c1, c2⟩ := He.ba c1
      exact p1 G1 _ H1 (L2.Same.refl _) (((free_keep c1).trans (free_keep (free_set c2))).trans (free_keep (free_set (free_set c3)))) (((R1.put (.fz q1)).put (.fz q2)).put (.fz q3))
    · rw [if_neg c1] at p1
      exact p1.elim
  | [], _, p1 => exact p1.elim
  | [_], _, p1 => exact p1.elim
  | [_, _], _, p1 => exact p1.elim
  | _ :: _ :: _ :: _ :: _, _, p1 => exact p1.elim
end
end L2.WD
/-! The data layer, part 19: the head's Hook, the interpreter's own names told. -/
namespace L2.WD
open PySem PySem.Spec PySem.Calls PyProof.Rows
def asC (g : Addr → Option Obj) (n : Nat) : List Addr := He.asD g n ++ [cStatics]
abbrev AlY : Type := He.AlD × Bool
def obsY (n : Nat) (fa : List He.Fa) (fn : List He.DefD) (ex : PySem.W.Frag → Bool) (g : Addr → Option Obj) : AlY := (He.obsD fa fn (He.frT g (asC g n)), ex (He.frT g (asC g n)))
def hookY (n : Nat) (fa : List He.Fa) (fn : List He.DefD) (ex : PySem.W.Frag → Bool) : PySem.W.Hook where
  α := AlY
  obs := fun s => obsY n fa fn ex s.heap.get?
  val := fun _ => (He.valD fn, true)
  says := fun _ h => ∃ K : PySem.W.Frag, K.In h ∧ He.SaysD fa fn K ∧ ex K = true
  of := fun _ _ e => ⟨_, He.frT_in, congrArg (fun z : AlY => z.1) e, congrArg (fun z : AlY => z.2) e⟩
  keeps := fun _ _ _ ⟨K, hK, c⟩ k => ⟨K, PySem.W.Frag.In.keeps hK k, c⟩
theorem obsY_eq {n : Nat} {fa : List He.Fa} {fn : List He.DefD} {ex : PySem.W.Frag → Bool} {g : Addr → Option Obj} {s : Shared} (h : ∀ a, g a = s.heap.get? a) : obsY n fa fn ex g = (hookY n fa fn ex).obs s := by
  have e : g = s.heap.get? := funext h
  rw [e] <;> rfl
end L2.WD
namespace L2.WD
open PySem PySem.Spec PySem.Calls PyProof.Rows
/-- whatever the world -/
def CXa (P : Program) : CXT := fun outer H s E u s' => ∃ w, L2.CX P w outer H s E u s'
theorem fnOk_any {P : Program} {w : World} {K : PySem.W.Frag} {mg : Str → Option Value} {base : Heap} {k : Nat} {f : Addr} {fd : FuncData} {ps : List Str} {sp : Sp} (F : FnOk P w K mg base (L2.CX P w) k f fd ps sp) : FnOk P w K mg base (CXa P) k f fd ps sp :=
  ⟨F.len, fun A outer s H args us vs Q E hr he hb hv hs => codeAny_mono (F.run A outer s H args us vs Q E hr he hb hv hs) fun r s' h => by
    cases r with
    | ok v => cases v <;> exact h
    | error u => exact ⟨w, h⟩⟩
theorem cxa_no {P : Program} (H : Hp) (s : Shared) (u : Value) (s' : Shared) (h : CXa P [] H s (fun _ _ _ => False) u s') : False := by
  obtain ⟨w, a, B, H', cls, d, _, _, _, _, _, _, _, z⟩ := h
  exact z
theorem funD_one {K : PySem.W.Frag} {x x' qual qual' : Str} {params params' : Arguments} {body body' : List Stmt} {scope scope' : Scope} {dvs dvs' : List V} {kws kws' : List (Str × V)} {f : Addr} {fd fd' : FuncData}
    (F : FunD K x qual params body scope dvs kws f fd) (F' : FunD K x' qual' params' body' scope' dvs' kws' f fd') : fd = fd' := by
  obtain ⟨_, _, _, _, _, _, _, _, _, _, _, l, _⟩ := F.ex
  obtain ⟨_, _, _, _, _, _, _, _, _, _, _, l', _⟩ := F'.ex
  rw [l] at l'
  injection l' with l'
  injection l' with _ _ l' _
  injection l' with l'
/-- the law's def, told by its promise -/
theorem law_spD {e : Ev} {F : Mo Sl} {H : Hp} {a : Addr} {ns : List Int} {E : XK} {ρ : List Sl} (hS : SqL e.K H a (ns.map V.int)) (h : F [.fz (.scr ns)] = .ok ρ (.fz (.bl true))) : spD e 1 F [.ref a] H (fun v _ => v = .bl true) E := by
  refine ⟨rfl, fun _ => none, H, [.fz (.scr ns)], ⟨L2.Same.refl _, (fun _ _ z => by cases z), (fun _ _ z => by cases z), .cons (.fz (.scr hS)) .nil, fun i j b s t h1 h2 o1 o2 => ?_⟩, ?_⟩
  · match i, h1 with
    | 0, h1 =>
      cases h1
      cases o1
    | i + 1, h1 => simp at h1
  · rw [h]
    intro G' H' v g k R r
    cases r.1 with
    | fz d =>
      cases d
      rfl
    | own r => cases r
end L2.WD
/-! The data layer, part 20: the combinators, step by step, by rewriting alone. -/
namespace L2.WD
open PySem PySem.Spec PySem.Calls PyProof.Rows
section
variable {α β γ : Type}
def bR (r : Re α) (k : List Sl → α → Re β) : Re β := match r with
  | .ok ρ a => k ρ a
  | .exc ρ c fs => .exc ρ c fs
  | .bad => .bad
def bS (r : Re α) (k : List Sl → α → Out) : Out := match r with
  | .ok ρ a => k ρ a
  | .exc ρ c fs => .exc ρ c fs
  | .bad => .bad
def nS (o : Out) (k : List Sl → Out) : Out := match o with
  | .nx ρ => k ρ
  | o => o
/-- a target -/
def gS (o : Out) (k : List Sl → β) (b : β) : β := match o with
  | .nx ρ => k ρ
  | _ => b
/-- a loop's body -/
def lS (o : Out) (k : List Sl → Out) : Out := match o with
  | .nx ρ => k ρ
  | .ct ρ => k ρ
  | .bk ρ => .nx ρ
  | o => o
/-- a def's end -/
def fS (as : List Sl) (o : Out) : Re Sl := match o with
  | .rt ρ s => .ok (back as ρ) s
  | .nx ρ => .ok (back as ρ) (.fz .non)
  | .exc ρ c fs => .exc (back as ρ) c fs
  | _ => .bad
def hS (o : Out) (k : List Sl → Nat → List (Str × D) → Out) : Out := match o with
  | .exc ρ c fs => k ρ c fs
  | o => o
def pR (ρ : List Sl) (as : List Ar) (r : Re Sl) : Re Sl := match r with
  | .ok ss s => .ok (wb ρ as ss) s
  | .exc ss c fs => .exc (wb ρ as ss) c fs
  | .bad => .bad
def oR (o : Option α) (k : α → β) (n : β) : β := match o with
  | some a => k a
  | none => n
def cR (c : Bool) (a b : β) : β := match c with
  | true => a
  | false => b
/-- no exception comes through -/
def kR (r : Re α) (k : List Sl → α → Re β) : Re β := match r with
  | .ok ρ a => k ρ a
  | _ => .bad
variable {r r' : Re α} {o o' : Out} {k : List Sl → α → Re β} {kb : List Sl → β} {ks : List Sl → α → Out} {kn : List Sl → Out} {kh : List Sl → Nat → List (Str × D) → Out} {ρ ss : List Sl} {a : α} {c : Nat} {fs : List (Str × D)} {s : Sl} {op op' : Option α} {ko : α → β} {n x y : β} {b b' : Bool} {as : List Ar} {vs : List Sl} {rs rs' : Re Sl}
theorem bR_ok : bR (.ok ρ a) k = k ρ a := Eq.trans rfl rfl
theorem bR_exc : bR (.exc ρ c fs : Re α) k = .exc ρ c fs := Eq.trans rfl rfl
theorem bR_bad : bR (.bad : Re α) k = .bad := Eq.trans rfl rfl
theorem kR_ok : kR (.ok ρ a) k = k ρ a := Eq.trans rfl rfl
theorem bS_ok : bS (.ok ρ a) ks = ks ρ a := Eq.trans rfl rfl
theorem bS_exc : bS (.exc ρ c fs : Re α) ks = .exc ρ c fs := Eq.trans rfl rfl
theorem bS_bad : bS (.bad : Re α) ks = .bad := Eq.trans rfl rfl
theorem nS_nx : nS (.nx ρ) kn = kn ρ := Eq.trans rfl rfl
theorem nS_rt : nS (.rt ρ s) kn = .rt ρ s := Eq.trans rfl rfl
theorem nS_exc : nS (.exc ρ c fs) kn = .exc ρ c fs := Eq.trans rfl rfl
theorem nS_bk : nS (.bk ρ) kn = .bk ρ := Eq.trans rfl rfl
theorem nS_ct : nS (.ct ρ) kn = .ct ρ := Eq.trans rfl rfl
theorem nS_bad : nS .bad kn = .bad := Eq.trans rfl rfl
theorem gS_nx : gS (.nx ρ) kb n = kb ρ := Eq.trans rfl rfl
theorem lS_nx : lS (.nx ρ) kn = kn ρ := Eq.trans rfl rfl
theorem lS_ct : lS (.ct ρ) kn = kn ρ := Eq.trans rfl rfl
theorem lS_bk : lS (.bk ρ) kn = .nx ρ := Eq.trans rfl rfl
theorem lS_rt : lS (.rt ρ s) kn = .rt ρ s := Eq.trans rfl rfl
theorem lS_exc : lS (.exc ρ c fs) kn = .exc ρ c fs := Eq.trans rfl rfl
theorem fS_rt : fS vs (.rt ρ s) = .ok (back vs ρ) s := Eq.trans rfl rfl
theorem fS_nx : fS vs (.nx ρ) = .ok (back vs ρ) (.fz .non) := Eq.trans rfl rfl
theorem fS_exc : fS vs (.exc ρ c fs) = .exc (back vs ρ) c fs := Eq.trans rfl rfl
theorem hS_nx : hS (.nx ρ) kh = .nx ρ := Eq.trans rfl rfl
theorem hS_rt : hS (.rt ρ s) kh = .rt ρ s := Eq.trans rfl rfl
theorem hS_exc : hS (.exc ρ c fs) kh = kh ρ c fs := Eq.trans rfl rfl
theorem pR_ok : pR ρ as (.ok ss s) = .ok (wb ρ as ss) s := Eq.trans rfl rfl
theorem pR_exc : pR ρ as (.exc ss c fs) = .exc (wb ρ as ss) c fs := Eq.trans rfl rfl
theorem oR_some : oR (some a) ko n = ko a := Eq.trans rfl rfl
theorem oR_none : oR none ko n = n := Eq.trans rfl rfl
theorem cR_true : cR true x y = x := Eq.trans rfl rfl
theorem cR_false : cR false x y = y := Eq.trans rfl rfl
end
section
variable {α γ : Type} {ρ : List Sl}
theorem ap_bind (f : Mo α) (k : α → Mo γ) : Mo.bind f k ρ = bR (f ρ) fun ρ a => k a ρ := by
  unfold Mo.bind bR; cases f ρ <;> rfl
theorem ap_pure (a : α) : (Mo.pure a : Mo α) ρ = .ok ρ a := rfl
theorem ap_bindS (f : Mo α) (k : α → So) : bindS f k ρ = bS (f ρ) fun ρ a => k a ρ := by
  unfold bindS bS; cases f ρ <;> rfl
theorem ap_seqS (a b : So) : seqS a b ρ = nS (a ρ) b := by
  unfold seqS nS; cases a ρ <;> rfl
/-- what a slot says of a name -/
def nmS (ρ : List Sl) (i : Nat) : Sl → Re Ar
  | .no => .bad
  | _ => .ok ρ (.sl i)
theorem ap_nmO (i : Nat) : nmO i ρ = oR ρ[i]? (nmS ρ i) .bad := by
  unfold nmO oR nmS
  cases ρ[i]? with
  | none => rfl
  | some s => cases s <;> rfl
theorem ap_cO (d : D) : cO d ρ = .ok ρ (.vl d) := rfl
theorem ap_frzD (f : Mo Sl) : frzD f ρ = bR (f ρ) fun ρ s => oR (frz s) (fun d => .ok ρ d) .bad := by
  unfold frzD; rw [ap_bind]; congr 1; funext ρ s; unfold oR; cases frz s <;> rfl
theorem ap_frzO (f : Mo Sl) : frzO f ρ = bR (f ρ) fun ρ s => oR (frz s) (fun d => .ok ρ (.vl d)) .bad := by
  unfold frzO; rw [ap_bind, ap_frzD]; unfold bR
  cases f ρ with
  | ok ρ s => simp only; unfold oR; cases frz s <;> rfl
  | exc ρ c fs => rfl
  | bad => rfl
def vaS (ρ : List Sl) : Sl → Re Sl
  | .fz d => .ok ρ (.fz d)
  | _ => .bad
def vaA (ρ : List Sl) : Ar → Re Sl
  | .vl d => .ok ρ (.fz d)
  | .sl i => oR ρ[i]? (vaS ρ) .bad
theorem ap_valO (f : Mo Ar) : valO f ρ = bR (f ρ) vaA := by
  unfold valO; rw [ap_bind]; congr 1; funext ρ a
  cases a with
  | vl d => rfl
  | sl i =>
    unfold vaA oR vaS
    dsimp only
    cases ρ[i]? with
    | none => rfl
    | some s => cases s <;> rfl
def vdS (ρ : List Sl) : Sl → Re D
  | .fz d => .ok ρ d
  | _ => .bad
def vdA (ρ : List Sl) : Ar → Re D
  | .vl d => .ok ρ d
  | .sl i => oR ρ[i]? (vdS ρ) .bad
theorem ap_valD (f : Mo Ar) : valD f ρ = bR (f ρ) vdA := by
  unfold valD; rw [ap_bind]; congr 1; funext ρ a
  cases a with
  | vl d => rfl
  | sl i =>
    unfold vdA oR vdS
    dsimp only
    cases ρ[i]? with
    | none => rfl
    | some s => cases s <;> rfl
def coS : Sl → Option D
  | .fz d => some d
  | .ow _ xs => some (.lst xs)
  | _ => none
theorem con_vl (d : D) : con ρ (.vl d) = some d := rfl
theorem con_sl (i : Nat) : con ρ (.sl i) = oR ρ[i]? coS none := by
  unfold con oR coS
  dsimp only
  cases ρ[i]? with
  | none => rfl
  | some s => cases s <;> rfl
theorem conS_nil : conS ρ [] = some [] := rfl
theorem conS_cons (a : Ar) (as : List Ar) : conS ρ (a :: as) = oR (con ρ a) (fun d => oR (conS ρ as) (fun ds => some (d :: ds)) none) none := by
  rw [conS]; unfold oR; cases con ρ a <;> cases conS ρ as <;> rfl
def rO (ρ : List Sl) (o : Option α) : Re α := oR o (fun a => .ok ρ a) .bad
theorem retO_eq (o : Option α) : retO ρ o = oR o (fun a => .ok ρ a) .bad := by cases o <;> rfl
theorem ap_binX (g : D → D → Option Sl) (fa fb : Mo Ar) : binX g fa fb ρ = bR (fa ρ) fun ρ a => bR (fb ρ) fun ρ b => oR (con ρ a) (fun d1 => oR (con ρ b) (fun d2 => oR (g d1 d2) (fun s => .ok ρ s) .bad) .bad) .bad := by
  unfold binX; rw [ap_bind]; congr 1; funext ρ a; rw [ap_bind]; congr 1; funext ρ b
  unfold oR; cases con ρ a <;> cases con ρ b <;> first | rfl | (dsimp only; unfold retO; split <;> simp_all)
theorem ap_unX (g : D → Option Sl) (fa : Mo Ar) : unX g fa ρ = bR (fa ρ) fun ρ a => oR (con ρ a) (fun d1 => oR (g d1) (fun s => .ok ρ s) .bad) .bad := by
  unfold unX; rw [ap_bind]; congr 1; funext ρ a
  unfold oR; cases con ρ a <;> first | rfl | (dsimp only; unfold retO; split <;> simp_all)
theorem ap_caX (g : List D → Option Sl) (fa : Mo (List Ar)) : caX g fa ρ = bR (fa ρ) fun ρ as => oR (conS ρ as) (fun ds => oR (g ds) (fun s => .ok ρ s) .bad) .bad := by
  unfold caX; rw [ap_bind]; congr 1; funext ρ a
  unfold oR; cases conS ρ a <;> first | rfl | (dsimp only; unfold retO; split <;> simp_all)
theorem ap_nilA : nilA ρ = .ok ρ [] := rfl
theorem ap_consA (f : Mo Ar) (g : Mo (List Ar)) : consA f g ρ = bR (f ρ) fun ρ a => bR (g ρ) fun ρ as => .ok ρ (a :: as) := by
  unfold consA; rw [ap_bind]; congr 1
theorem ap_nilD : nilD ρ = .ok ρ [] := rfl
theorem ap_consD (f : Mo D) (g : Mo (List D)) : consD f g ρ = bR (f ρ) fun ρ a => bR (g ρ) fun ρ as => .ok ρ (a :: as) := by
  unfold consD; rw [ap_bind]; congr 1
theorem ap_putS (i : Nat) (s : Sl) : putS i s ρ = cR (free ρ i) (.nx (ρ.set i s)) .bad := by
  unfold putS cR; cases free ρ i <;> rfl
theorem free_eq (i : Nat) : free ρ i = oR ρ[i]? (fun s => !s.mine) false := by
  unfold free oR; cases ρ[i]? <;> rfl
theorem ap_setS (i : Nat) (f : Mo Sl) : setS i f ρ = bS (f ρ) fun ρ s => cR (free ρ i) (.nx (ρ.set i s)) .bad := by
  unfold setS; rw [ap_bindS]; congr 1; funext ρ s; exact ap_putS i s
theorem ap_retS (f : Mo Sl) : retS f ρ = bS (f ρ) .rt := by
  unfold retS; rw [ap_bindS]
theorem ap_exprS (f : Mo α) : exprS f ρ = bS (f ρ) fun ρ _ => .nx ρ := by
  unfold exprS; rw [ap_bindS]
theorem ap_ifS (t : Mo Bool) (a b : So) : ifS t a b ρ = bS (t ρ) fun ρ c => cR c (a ρ) (b ρ) := by
  unfold ifS; rw [ap_bindS]; congr 1; funext ρ c; cases c <;> rfl
theorem ap_nxS : nxS ρ = .nx ρ := rfl
theorem ap_retN : retN ρ = .rt ρ (.fz .non) := rfl
def mvS (ρ : List Sl) (i : Nat) : Sl → Re Sl
  | .fz d => .ok ρ (.fz d)
  | .ow false xs => .ok (ρ.set i .no) (.ow false xs)
  | .oo false c fs => .ok (ρ.set i .no) (.oo false c fs)
  | _ => .bad
theorem ap_mvX (i : Nat) : mvX i ρ = oR ρ[i]? (mvS ρ i) .bad := by
  unfold mvX oR mvS
  cases ρ[i]? with
  | none => rfl
  | some s => cases s <;> first | rfl | (rename_i p _; cases p <;> rfl) | (rename_i p _ _; cases p <;> rfl)
def frS (ρ : List Sl) (i : Nat) : Sl → Re D
  | .fz d => .ok ρ d
  | .ow false xs => .ok (ρ.set i (.fz (.lst xs))) (.lst xs)
  | _ => .bad
theorem ap_frD (i : Nat) : frD i ρ = oR ρ[i]? (frS ρ i) .bad := by
  unfold frD oR frS
  cases ρ[i]? with
  | none => rfl
  | some s => cases s <;> first | rfl | (rename_i p _; cases p <;> rfl) | (rename_i p _ _; cases p <;> rfl)
theorem ap_frO (i : Nat) : frO i ρ = bR (frD i ρ) fun ρ d => .ok ρ (.vl d) := by
  unfold frO; rw [ap_bind]
theorem ap_truO (f : Mo Ar) : truO f ρ = bR (f ρ) fun ρ a => oR (con ρ a) (fun d => oR (truD d) (fun b => .ok ρ b) .bad) .bad := by
  unfold truO; rw [ap_bind]; congr 1; funext ρ a
  unfold oR; cases con ρ a <;> first | rfl | (dsimp only; unfold retO; split <;> simp_all)
def tsS (ρ : List Sl) : Sl → Re Bool
  | .fz (.bl b) => .ok ρ b
  | _ => .bad
theorem ap_tstB (f : Mo Sl) : tstB f ρ = bR (f ρ) tsS := by
  unfold tstB; rw [ap_bind]; congr 1
theorem ap_andT (t u : Mo Bool) : andT t u ρ = bR (t ρ) fun ρ c => cR c (u ρ) (.ok ρ false) := by
  unfold andT; rw [ap_bind]; congr 1; funext ρ c; cases c <;> rfl
theorem ap_orT (t u : Mo Bool) : orT t u ρ = bR (t ρ) fun ρ c => cR c (.ok ρ true) (u ρ) := by
  unfold orT; rw [ap_bind]; congr 1; funext ρ c; cases c <;> rfl
theorem ap_notT (t : Mo Bool) : notT t ρ = bR (t ρ) fun ρ c => .ok ρ (!c) := by
  unfold notT; rw [ap_bind]; rfl
theorem ap_notX (f : Mo Ar) : notX f ρ = bR (truO f ρ) fun ρ c => .ok ρ (.fz (.bl (!c))) := by
  unfold notX; rw [ap_bind]; rfl
theorem ap_andO (f g : Mo Ar) : andO f g ρ = bR (f ρ) fun ρ a => oR (con ρ a) (fun d => oR (truD d) (fun b => cR b (g ρ) (.ok ρ a)) .bad) .bad := by
  unfold andO; rw [ap_bind]; congr 1; funext ρ a
  unfold oR; cases con ρ a with
  | none => rfl
  | some d => dsimp only; cases truD d with
    | none => rfl
    | some b => cases b <;> rfl
theorem ap_orO (f g : Mo Ar) : orO f g ρ = bR (f ρ) fun ρ a => oR (con ρ a) (fun d => oR (truD d) (fun b => cR b (.ok ρ a) (g ρ)) .bad) .bad := by
  unfold orO; rw [ap_bind]; congr 1; funext ρ a
  unfold oR; cases con ρ a with
  | none => rfl
  | some d => dsimp only; cases truD d with
    | none => rfl
    | some b => cases b <;> rfl
theorem ap_ifE (t : Mo Bool) (f g : Mo α) : ifE t f g ρ = bR (t ρ) fun ρ c => cR c (f ρ) (g ρ) := by
  unfold ifE; rw [ap_bind]; congr 1; funext ρ c; cases c <;> rfl
/-- a first comparison's answer -/
def blO : Sl → Option Bool
  | .fz (.bl b) => some b
  | _ => none
theorem ap_chX (g g' : D → D → Option Sl) (fa fb fc : Mo Ar) : chX g g' fa fb fc ρ = bR (fa ρ) fun ρ a => bR (fb ρ) fun ρ b => oR (con ρ a) (fun d1 => oR (con ρ b) (fun d2 => oR (g d1 d2) (fun s => oR (blO s) (fun q => cR q (bR (fc ρ) fun ρ' c => oR (con ρ' b) (fun d2 => oR (con ρ' c) (fun d3 => oR (g' d2 d3) (fun s => .ok ρ' s) .bad) .bad) .bad) (.ok ρ (.fz (.bl false)))) .bad) .bad) .bad) .bad := by
  unfold chX; rw [ap_bind]; congr 1; funext ρ a; rw [ap_bind]; congr 1; funext ρ b
  cases con ρ a with
  | none => rfl
  | some d1 =>
    cases con ρ b with
    | none => rfl
    | some d2 =>
      simp only [oR_some]
      cases g d1 d2 with
      | none => rfl
      | some s =>
        cases s with
        | fz d =>
          cases d with
          | bl q =>
            cases q with
            | true =>
              simp only [oR_some, blO, cR_true, ap_bind]
              congr 1
              funext ρ' c
              cases con ρ' b <;> cases con ρ' c <;> first | rfl | (simp only [oR_some, retO_eq])
            | false => rfl
          | _ => rfl
        | _ => rfl
theorem ap_noO : noO ρ = .ok ρ none := rfl
def ptS (ρ : List Sl) : D → Re (Option Int)
  | .int i => .ok ρ (some i)
  | _ => .bad
theorem ap_ptO (f : Mo Ar) : ptO f ρ = bR (f ρ) fun ρ a => oR (con ρ a) (ptS ρ) .bad := by
  unfold ptO; rw [ap_bind]; congr 1; funext ρ a
  cases con ρ a with
  | none => rfl
  | some d => cases d <;> rfl
theorem ap_slX (f : Mo Ar) (lo hi : Mo (Option Int)) : slX f lo hi ρ = bR (f ρ) fun ρ a => bR (lo ρ) fun ρ l => bR (hi ρ) fun ρ u => oR (con ρ a) (fun d => oR (slD l u d) (fun s => .ok ρ s) .bad) .bad := by
  unfold slX; rw [ap_bind]; congr 1; funext ρ a; rw [ap_bind]; congr 1; funext ρ l; rw [ap_bind]; congr 1; funext ρ u
  cases con ρ a <;> first | rfl | (simp only [oR_some, retO_eq])
theorem ap_tupX (f : Mo (List D)) : tupX f ρ = bR (f ρ) fun ρ ds => cR (decide (ds.length ≤ sizeLine)) (.ok ρ (.fz (.tup ds))) .bad := by
  unfold tupX; rw [ap_bind]; congr 1; funext ρ ds; by_cases c : ds.length ≤ sizeLine <;> simp [c, cR]
theorem ap_lstX (f : Mo (List D)) : lstX f ρ = bR (f ρ) fun ρ ds => cR (decide (ds.length ≤ sizeLine)) (.ok ρ (.ow false ds)) .bad := by
  unfold lstX; rw [ap_bind]; congr 1; funext ρ ds; by_cases c : ds.length ≤ sizeLine <;> simp [c, cR]
theorem ap_dic0X : dic0X ρ = .ok ρ (.fz (.dic [])) := rfl
theorem ap_itX (f : Mo D) : itX f ρ = bR (f ρ) fun ρ d => oR (itemsD d) (fun ds => .ok ρ ds) .bad := by
  unfold itX; rw [ap_bind]; congr 1
theorem ap_enX (f : Mo D) : enX f ρ = bR (f ρ) fun ρ d => oR (enumD d) (fun ds => .ok ρ ds) .bad := by
  unfold enX; rw [ap_bind]; congr 1
def rgS (ρ : List Sl) : D → Re (List D)
  | .int j => cR (decide (-(2 ^ 62) ≤ j ∧ j < 2 ^ 62)) (.ok ρ (rngD 0 j)) .bad
  | _ => .bad
theorem ap_rg1 (f : Mo Ar) : rg1 f ρ = bR (f ρ) fun ρ a => oR (con ρ a) (rgS ρ) .bad := by
  unfold rg1; rw [ap_bind]; congr 1; funext ρ a
  cases con ρ a with
  | none => rfl
  | some d =>
    cases d with
    | int j =>
      show (if -(2 ^ 62) ≤ j ∧ j < 2 ^ 62 then Re.ok ρ (rngD 0 j) else .bad) = cR (decide (-(2 ^ 62) ≤ j ∧ j < 2 ^ 62)) (Re.ok ρ (rngD 0 j)) .bad
      by_cases c : -(2 ^ 62) ≤ j ∧ j < 2 ^ 62
      · rw [if_pos c, decide_eq_true c]; rfl
      · rw [if_neg c, decide_eq_false c]; rfl
    | _ => rfl
theorem ap_gN (i : Nat) (d : D) : gN i d ρ = cR (free ρ i) (.nx (ρ.set i (.fz d))) .bad := ap_putS i (.fz d)
theorem ap_gNilD : gNilD [] ρ = .nx ρ := rfl
theorem ap_gConsD (t : D → So) (u : List D → So) (d : D) (ds : List D) : gConsD t u (d :: ds) ρ = nS (t d ρ) (u ds) := ap_seqS _ _
theorem ap_gTupD (n : Nat) (u : List D → So) (ds : List D) : gTupD n u (.tup ds) ρ = cR (decide (ds.length = n)) (u ds ρ) .bad := by
  unfold gTupD; by_cases c : ds.length = n <;> simp [c, cR]
theorem ap_asgS (f : Mo D) (t : D → So) : asgS f t ρ = bS (f ρ) fun ρ d => gS (t d ρ) .nx .bad := by
  unfold asgS; rw [ap_bindS]; congr 1
theorem ap_forS (f : Mo (List D)) (t : D → So) (body : So) : forS f t body ρ = bS (f ρ) fun ρ ds => loopS t body ds ρ := by
  unfold forS; rw [ap_bindS]
theorem loopS_nil (t : D → So) (body : So) : loopS t body [] ρ = .nx ρ := rfl
theorem loopS_cons (t : D → So) (body : So) (d : D) (ds : List D) : loopS t body (d :: ds) ρ = gS (t d ρ) (fun ρ => lS (body ρ) (loopS t body ds)) .bad := by
  rw [loopS]; unfold gS; dsimp only
  cases t d ρ with
  | nx ρ1 => dsimp only; unfold lS; cases body ρ1 <;> rfl
  | _ => rfl
theorem ap_bodyF (n : Nat) (g : So) (as : List Sl) : bodyF n g as = fS as (g (as.map give ++ List.replicate (n - as.length) .no)) := by
  unfold bodyF fS; cases g (as.map give ++ List.replicate (n - as.length) .no) <;> rfl
theorem ap_callX (F : Mo Sl) (more : List D) (fa : Mo (List Ar)) : callX F more fa ρ = bR (fa ρ) fun ρ as => cR (decide (ownIx ρ as).Nodup) (pR ρ as (F (argS ρ as ++ more.map .fz))) .bad := by
  unfold callX; rw [ap_bind]; congr 1; funext ρ as; unfold appF
  by_cases c : (ownIx ρ as).Nodup
  · rw [if_pos c, decide_eq_true c]; unfold pR cR; cases F (argS ρ as ++ more.map .fz) <;> rfl
  · rw [if_neg c, decide_eq_false c]; rfl
theorem ap_appF (F : Mo Sl) (more : List D) (as : List Ar) : appF F more as ρ = cR (decide (ownIx ρ as).Nodup) (pR ρ as (F (argS ρ as ++ more.map .fz))) .bad := by
  unfold appF
  by_cases c : (ownIx ρ as).Nodup
  · rw [if_pos c, decide_eq_true c]; unfold pR cR; cases F (argS ρ as ++ more.map .fz) <;> rfl
  · rw [if_neg c, decide_eq_false c]; rfl
def tkS (n : Nat) (ρ : List Sl) (i : Nat) : Re Sl := match ρ[i]? with
  | some (.oo _ c fs) => .ok (ρ.take n) (.oo false c fs)
  | _ => .bad
theorem ap_mkX (c : Nat) (F : Mo Sl) (more : List D) (fa : Mo (List Ar)) : mkX c F more fa ρ = bR (fa ρ) fun ρ as => takeR (α := Unit) ρ.length ρ.length (appF F more (.sl ρ.length :: as) (ρ ++ [.oo false c []])) := by
  unfold mkX; rw [ap_bind]
theorem takeR_ok (n i : Nat) (σ : List Sl) : takeR (α := α) n i (.ok σ (.fz .non)) = tkS n σ i := rfl
theorem takeR_exc (n i c : Nat) (σ : List Sl) (fs : List (Str × D)) : takeR (α := α) n i (.exc σ c fs) = .exc (σ.take n) c fs := rfl
def flS (c i : Nat) (f : Str) (ρ : List Sl) (d : D) : Sl → Out
  | .oo m c' fs => cR (decide (c' = c ∧ fs.length < 1000)) (.nx (ρ.set i (.oo m c' (putFD f d fs)))) .bad
  | _ => .bad
theorem ap_fldS (c i : Nat) (f : Str) (fd : Mo D) : fldS c i f fd ρ = bS (fd ρ) fun ρ d => oR ρ[i]? (flS c i f ρ d) .bad := by
  unfold fldS; rw [ap_bindS]; congr 1; funext ρ d; unfold oR flS
  cases ρ[i]? with
  | none => rfl
  | some s =>
    cases s with
    | oo m c' fs =>
      by_cases k : c' = c ∧ fs.length < 1000
      · simp only [if_pos k, decide_eq_true k]; rfl
      · simp only [if_neg k, decide_eq_false k]; rfl
    | _ => rfl
theorem ap_attX (cs : List (Nat × Bool)) (f : Str) (fo : Mo Ar) : attX cs f fo ρ = bR (fo ρ) fun ρ a => oR (attD cs f ρ a) (fun d => .ok ρ (.vl d)) .bad := by
  unfold attX; rw [ap_bind]; congr 1; funext ρ a; unfold oR; cases attD cs f ρ a <;> rfl
theorem ap_raiseS1 (c : Nat) (f : Str) (fd : Mo D) : raiseS1 c f fd ρ = bS (fd ρ) fun ρ d => .exc ρ c [(f, d)] := by
  unfold raiseS1; rw [ap_bindS]
theorem ap_raiseS0 (c : Nat) : raiseS0 c ρ = .exc ρ c [] := rfl
theorem ap_tryS (b : So) (hs : List Hd) : tryS b hs ρ = hS (b ρ) (handle hs) := by
  unfold tryS hS; cases b ρ <;> rfl
theorem handle_nil (c : Nat) (fs : List (Str × D)) : handle [] ρ c fs = .exc ρ c fs := rfl
theorem handle_cons (h : Hd) (hs : List Hd) (c : Nat) (fs : List (Str × D)) : handle (h :: hs) ρ c fs = oR (h.cat c) (fun q => cR q (cR (free ρ h.ix) (goneS h.ix (h.su (ρ.set h.ix (.fz (.exc c fs))))) .bad) (handle hs ρ c fs)) .bad := by
  rw [handle]; unfold oR
  cases h.cat c with
  | none => rfl
  | some q =>
    cases q with
    | true => unfold cR; cases free ρ h.ix <;> rfl
    | false => rfl
def muS (ρ : List Sl) (i : Nat) (g : List D → List D → Option (List D × D)) (ds : List D) : Sl → Re Sl
  | .ow m xs => oR (g xs ds) (fun q => .ok (ρ.set i (.ow m q.1)) (.fz q.2)) .bad
  | _ => .bad
theorem ap_muX (i : Nat) (g : List D → List D → Option (List D × D)) (f : Mo (List D)) : muX i g f ρ = bR (f ρ) fun ρ ds => oR ρ[i]? (muS ρ i g ds) .bad := by
  unfold muX; rw [ap_bind]; congr 1; funext ρ ds; unfold oR muS
  cases ρ[i]? with
  | none => rfl
  | some s =>
    cases s with
    | ow m xs => dsimp only; unfold oR; cases g xs ds <;> rfl
    | _ => rfl
def owB : Sl → Bool
  | .ow _ _ => true
  | _ => false
theorem ap_muN (i : Nat) (f : Mo Sl) : muN i f ρ = cR (oR ρ[i]? owB false) (f ρ) .bad := by
  unfold muN oR owB cR
  cases ρ[i]? with
  | none => rfl
  | some s => cases s <;> rfl
theorem ap_mtX (T : String) (g : D → List D → Option Sl) (fo : Mo Ar) (fa : Mo (List Ar)) : mtX T g fo fa ρ = bR (fo ρ) fun ρ o => oR (con ρ o) (fun d => cR (kindIs T d) (bR (fa ρ) fun ρ' as => oR (con ρ' o) (fun d' => oR (conS ρ' as) (fun ds => oR (g d' ds) (fun s => .ok ρ' s) .bad) .bad) .bad) .bad) .bad := by
  unfold mtX; rw [ap_bind]; congr 1; funext ρ o
  cases con ρ o with
  | none => rfl
  | some d =>
    simp only [oR_some]
    cases kindIs T d with
    | false => rfl
    | true =>
      simp only [if_true, cR_true, ap_bind]
      congr 1
      funext ρ' as
      cases con ρ' o <;> cases conS ρ' as <;> first | rfl | (simp only [oR_some, retO_eq])
theorem hasOw_eq (i : Nat) : hasOw ρ i = oR ρ[i]? owB false := by
  unfold hasOw oR owB
  cases ρ[i]? with
  | none => rfl
  | some s => cases s <;> rfl
def gbS (ρ : List Sl) (i : Nat) (d : D) (k : Int) : Sl → Out
  | .ow m xs => oR (ixN xs.length k) (fun j => .nx (ρ.set i (.ow m (xs.set j d)))) .bad
  | _ => .bad
def gbD (ρ : List Sl) (i : Nat) (d : D) : D → Out
  | .int k => oR ρ[i]? (gbS ρ i d k) .bad
  | _ => .bad
def xS (r : Re α) (k : List Sl → α → Out) : Out := match r with
  | .ok ρ a => k ρ a
  | _ => .bad
theorem xS_ok {a : α} {k : List Sl → α → Out} : xS (.ok ρ a) k = k ρ a := Eq.trans rfl rfl
theorem ap_gSubD (i : Nat) (fi : Mo Ar) (d : D) : gSubD i fi d ρ = cR (hasOw ρ i) (xS (fi ρ) fun ρ1 a => oR (con ρ1 a) (gbD ρ1 i d) .bad) .bad := by
  unfold gSubD cR
  cases hasOw ρ i with
  | false => rfl
  | true =>
    simp only [if_true]
    unfold xS
    cases fi ρ with
    | ok ρ1 a =>
      dsimp only
      unfold oR
      cases con ρ1 a with
      | none => rfl
      | some q =>
        cases q with
        | int k =>
          unfold gbD oR gbS
          dsimp only
          cases ρ1[i]? with
          | none => rfl
          | some s =>
            cases s with
            | ow m xs => dsimp only; unfold oR; cases ixN xs.length k <;> rfl
            | _ => rfl
        | _ => rfl
    | exc ρ1 c fs => rfl
    | bad => rfl
theorem ap_parS (i j : Nat) (f : Mo (List D)) : parS i j f ρ = bS (f ρ) fun ρ ds => (match ds with | [d1, d2] => cR (free2 ρ i j) (.nx ((ρ.set i (.fz d1)).set j (.fz d2))) .bad | _ => .bad) := by
  unfold parS; rw [ap_bindS]; congr 1; funext ρ ds
  match ds with
  | [] => rfl
  | [_] => rfl
  | [d1, d2] => dsimp only; unfold cR; cases free2 ρ i j <;> rfl
  | _ :: _ :: _ :: _ => rfl
theorem ap_kwX (F : Mo Sl) (perm : List Nat) (more : List D) (fa fk : Mo (List Ar)) : kwX F perm more fa fk ρ = bR (fa ρ) fun ρ as => bR (fk ρ) fun ρ bs => appF F [] (selL perm (as ++ bs ++ more.map .vl)) ρ := by
  unfold kwX; rw [ap_bind]; congr 1
theorem ap_yesT : yesT ρ = .ok ρ true := rfl
theorem ap_compX (own : List Nat) (f : Mo (List D)) (t : D → So) (tt : Mo Bool) (el : Mo D) : compX own f t tt el ρ = bR (f ρ) fun ρ ds => cR (decide (ds.length < sizeLine) && own.all (plainSl ρ)) (kR (compL own t tt el ds ρ) fun ρ ys => .ok ρ (.ow false ys)) .bad := by
  unfold compX; rw [ap_bind]; congr 1; funext ρ ds
  by_cases c : ds.length < sizeLine ∧ own.all (plainSl ρ) = true
  · rw [if_pos c]
    simp only [c.1, c.2, decide_true, Bool.and_self, cR_true]
    unfold compE kR
    cases compL own t tt el ds ρ <;> rfl
  · rw [if_neg c]
    have : (decide (ds.length < sizeLine) && own.all (plainSl ρ)) = false := by
      rw [Bool.eq_false_iff]
      intro z
      obtain ⟨z1, z2⟩ := He.ba z
      exact c ⟨of_decide_eq_true z1, z2⟩
    rw [this]
    rfl
theorem compL_nil (own : List Nat) (t : D → So) (tt : Mo Bool) (el : Mo D) : compL own t tt el [] ρ = .ok ρ [] := rfl
theorem compL_cons (own : List Nat) (t : D → So) (tt : Mo Bool) (el : Mo D) (d : D) (ds : List D) : compL own t tt el (d :: ds) ρ = gS (t d (wipeD ρ own)) (fun ρ1 => kR (tt ρ1) fun ρ2 q => cR q (kR (el ρ2) fun ρ3 y => kR (compL own t tt el ds (mixD ρ ρ3 own)) fun ρ4 ys => .ok ρ4 (y :: ys)) (compL own t tt el ds (mixD ρ ρ2 own))) .bad := by
  rw [compL]; unfold gS; dsimp only
  cases t d (wipeD ρ own) with
  | nx ρ1 =>
    dsimp only
    unfold kR
    cases tt ρ1 with
    | ok ρ2 q =>
      cases q with
      | true =>
        dsimp only
        unfold cR
        dsimp only
        cases el ρ2 with
        | ok ρ3 y => dsimp only; cases compL own t tt el ds (mixD ρ ρ3 own) <;> rfl
        | _ => rfl
      | false => rfl
    | _ => rfl
  | _ => rfl
end
/-- a comprehension that leaves the slots as they are -/
theorem compL_map {own : List Nat} {t : D → So} {el : Mo D} {ρ : List Sl} (f : D → D) : ∀ ds : List D, (∀ d ∈ ds, ∃ ρ1 ρ2, t d (wipeD ρ own) = .nx ρ1 ∧ el ρ1 = .ok ρ2 (f d) ∧ mixD ρ ρ2 own = ρ) → compL own t yesT el ds ρ = .ok ρ (ds.map f)
  | [], _ => rfl
  | d :: ds, h => by
    obtain ⟨ρ1, ρ2, h1, h2, h3⟩ := h d (by simp)
    have ih := compL_map f ds fun x hx => h x (by simp [hx])
    rw [compL_cons, h1, gS_nx, ap_yesT, kR_ok, cR_true, h2, kR_ok, h3, ih, kR_ok]
    rfl
section
variable {d : D} {ds xs : List D} {b : Bool} {i : Int} {c n : Nat} {fs : List (Str × D)} {ns : List Int} {z : Str}
theorem frz_fz : frz (.fz d) = some d := rfl
theorem frz_ow : frz (.ow false xs) = some (.lst xs) := rfl
theorem frz_oo : frz (.oo false c fs) = some (.obj c fs) := rfl
theorem truD_bl : truD (.bl b) = some b := rfl
theorem truD_non : truD .non = some false := rfl
theorem truD_int : truD (.int i) = some (i != 0) := rfl
theorem truD_lst : truD (.lst xs) = some (!xs.isEmpty) := rfl
theorem truD_tup : truD (.tup xs) = some (!xs.isEmpty) := rfl
theorem itemsD_lst : itemsD (.lst xs) = some xs := rfl
theorem itemsD_tup : itemsD (.tup xs) = some xs := rfl
theorem itemsD_scr : itemsD (.scr ns) = some (ns.map D.int) := rfl
theorem itemsD_str : itemsD (.str z) = some (z.cps.toList.map fun c => .str ⟨#[c]⟩) := rfl
theorem enumD_lst : enumD (.lst xs) = some (numD 0 xs) := rfl
theorem enumD_tup : enumD (.tup xs) = some (numD 0 xs) := rfl
theorem numD_nil : numD n [] = [] := rfl
theorem numD_cons : numD n (d :: ds) = .tup [.int n, d] :: numD (n + 1) ds := rfl
end
section
variable {d : D} {xs : List D} {p q : Bool} {c : Nat} {fs : List (Str × D)}
theorem mine_no : Sl.mine .no = false := rfl
theorem mine_fz : Sl.mine (.fz d) = false := rfl
theorem mine_ow : Sl.mine (.ow p xs) = p := rfl
theorem mine_oo : Sl.mine (.oo p c fs) = p := rfl
theorem owned_no : Sl.owned .no = false := rfl
theorem owned_fz : Sl.owned (.fz d) = false := rfl
theorem owned_ow : Sl.owned (.ow p xs) = true := rfl
theorem owned_oo : Sl.owned (.oo p c fs) = true := rfl
theorem flag_no : Sl.flag q .no = .no := rfl
theorem flag_fz : Sl.flag q (.fz d) = .fz d := rfl
theorem flag_ow : Sl.flag q (.ow p xs) = .ow q xs := rfl
theorem flag_oo : Sl.flag q (.oo p c fs) = .oo q c fs := rfl
end
end L2.WD
/-! The data layer, part 21: the steps at slots that stand written out. -/
namespace L2.WD
open PySem PySem.Spec PySem.Calls PyProof.Rows
section
variable {α γ : Type} {s0 : Sl} {ρ0 : List Sl}
theorem cp_bind (f : Mo α) (k : α → Mo γ) : Mo.bind f k (s0 :: ρ0) = bR (f (s0 :: ρ0)) fun ρ a => k a ρ := ap_bind (ρ := s0 :: ρ0) f k
theorem cp_pure (a : α) : (Mo.pure a : Mo α) (s0 :: ρ0) = .ok (s0 :: ρ0) a := ap_pure (ρ := s0 :: ρ0) a
theorem cp_bindS (f : Mo α) (k : α → So) : bindS f k (s0 :: ρ0) = bS (f (s0 :: ρ0)) fun ρ a => k a ρ := ap_bindS (ρ := s0 :: ρ0) f k
theorem cp_seqS (a b : So) : seqS a b (s0 :: ρ0) = nS (a (s0 :: ρ0)) b := ap_seqS (ρ := s0 :: ρ0) a b
theorem cp_nmO (i : Nat) : nmO i (s0 :: ρ0) = oR (s0 :: ρ0)[i]? (nmS (s0 :: ρ0) i) .bad := ap_nmO (ρ := s0 :: ρ0) i
theorem cp_cO (d : D) : cO d (s0 :: ρ0) = .ok (s0 :: ρ0) (.vl d) := ap_cO (ρ := s0 :: ρ0) d
theorem cp_frzD (f : Mo Sl) : frzD f (s0 :: ρ0) = bR (f (s0 :: ρ0)) fun ρ s => oR (frz s) (fun d => .ok ρ d) .bad := ap_frzD (ρ := s0 :: ρ0) f
theorem cp_frzO (f : Mo Sl) : frzO f (s0 :: ρ0) = bR (f (s0 :: ρ0)) fun ρ s => oR (frz s) (fun d => .ok ρ (.vl d)) .bad := ap_frzO (ρ := s0 :: ρ0) f
theorem cp_valO (f : Mo Ar) : valO f (s0 :: ρ0) = bR (f (s0 :: ρ0)) vaA := ap_valO (ρ := s0 :: ρ0) f
theorem cp_valD (f : Mo Ar) : valD f (s0 :: ρ0) = bR (f (s0 :: ρ0)) vdA := ap_valD (ρ := s0 :: ρ0) f
theorem cp_binX (g : D → D → Option Sl) (fa fb : Mo Ar) : binX g fa fb (s0 :: ρ0) = bR (fa (s0 :: ρ0)) fun ρ a => bR (fb ρ) fun ρ b => oR (con ρ a) (fun d1 => oR (con ρ b) (fun d2 => oR (g d1 d2) (fun s => .ok ρ s) .bad) .bad) .bad := ap_binX (ρ := s0 :: ρ0) g fa fb
theorem cp_unX (g : D → Option Sl) (fa : Mo Ar) : unX g fa (s0 :: ρ0) = bR (fa (s0 :: ρ0)) fun ρ a => oR (con ρ a) (fun d1 => oR (g d1) (fun s => .ok ρ s) .bad) .bad := ap_unX (ρ := s0 :: ρ0) g fa
theorem cp_caX (g : List D → Option Sl) (fa : Mo (List Ar)) : caX g fa (s0 :: ρ0) = bR (fa (s0 :: ρ0)) fun ρ as => oR (conS ρ as) (fun ds => oR (g ds) (fun s => .ok ρ s) .bad) .bad := ap_caX (ρ := s0 :: ρ0) g fa
theorem cp_nilA : nilA (s0 :: ρ0) = .ok (s0 :: ρ0) [] := ap_nilA (ρ := s0 :: ρ0) 
theorem cp_consA (f : Mo Ar) (g : Mo (List Ar)) : consA f g (s0 :: ρ0) = bR (f (s0 :: ρ0)) fun ρ a => bR (g ρ) fun ρ as => .ok ρ (a :: as) := ap_consA (ρ := s0 :: ρ0) f g
theorem cp_nilD : nilD (s0 :: ρ0) = .ok (s0 :: ρ0) [] := ap_nilD (ρ := s0 :: ρ0) 
theorem cp_consD (f : Mo D) (g : Mo (List D)) : consD f g (s0 :: ρ0) = bR (f (s0 :: ρ0)) fun ρ a => bR (g ρ) fun ρ as => .ok ρ (a :: as) := ap_consD (ρ := s0 :: ρ0) f g
theorem cp_free_eq (i : Nat) : free (s0 :: ρ0) i = oR (s0 :: ρ0)[i]? (fun s => !s.mine) false := free_eq (ρ := s0 :: ρ0) i
theorem cp_setS (i : Nat) (f : Mo Sl) : setS i f (s0 :: ρ0) = bS (f (s0 :: ρ0)) fun ρ s => cR (free ρ i) (.nx (ρ.set i s)) .bad := ap_setS (ρ := s0 :: ρ0) i f
theorem cp_retS (f : Mo Sl) : retS f (s0 :: ρ0) = bS (f (s0 :: ρ0)) .rt := ap_retS (ρ := s0 :: ρ0) f
theorem cp_exprS (f : Mo α) : exprS f (s0 :: ρ0) = bS (f (s0 :: ρ0)) fun ρ _ => .nx ρ := ap_exprS (ρ := s0 :: ρ0) f
theorem cp_ifS (t : Mo Bool) (a b : So) : ifS t a b (s0 :: ρ0) = bS (t (s0 :: ρ0)) fun ρ c => cR c (a ρ) (b ρ) := ap_ifS (ρ := s0 :: ρ0) t a b
theorem cp_nxS : nxS (s0 :: ρ0) = .nx (s0 :: ρ0) := ap_nxS (ρ := s0 :: ρ0) 
theorem cp_retN : retN (s0 :: ρ0) = .rt (s0 :: ρ0) (.fz .non) := ap_retN (ρ := s0 :: ρ0) 
theorem cp_mvX (i : Nat) : mvX i (s0 :: ρ0) = oR (s0 :: ρ0)[i]? (mvS (s0 :: ρ0) i) .bad := ap_mvX (ρ := s0 :: ρ0) i
theorem cp_frD (i : Nat) : frD i (s0 :: ρ0) = oR (s0 :: ρ0)[i]? (frS (s0 :: ρ0) i) .bad := ap_frD (ρ := s0 :: ρ0) i
theorem cp_frO (i : Nat) : frO i (s0 :: ρ0) = bR (frD i (s0 :: ρ0)) fun ρ d => .ok ρ (.vl d) := ap_frO (ρ := s0 :: ρ0) i
theorem cp_truO (f : Mo Ar) : truO f (s0 :: ρ0) = bR (f (s0 :: ρ0)) fun ρ a => oR (con ρ a) (fun d => oR (truD d) (fun b => .ok ρ b) .bad) .bad := ap_truO (ρ := s0 :: ρ0) f
theorem cp_tstB (f : Mo Sl) : tstB f (s0 :: ρ0) = bR (f (s0 :: ρ0)) tsS := ap_tstB (ρ := s0 :: ρ0) f
theorem cp_andT (t u : Mo Bool) : andT t u (s0 :: ρ0) = bR (t (s0 :: ρ0)) fun ρ c => cR c (u ρ) (.ok ρ false) := ap_andT (ρ := s0 :: ρ0) t u
theorem cp_orT (t u : Mo Bool) : orT t u (s0 :: ρ0) = bR (t (s0 :: ρ0)) fun ρ c => cR c (.ok ρ true) (u ρ) := ap_orT (ρ := s0 :: ρ0) t u
theorem cp_notT (t : Mo Bool) : notT t (s0 :: ρ0) = bR (t (s0 :: ρ0)) fun ρ c => .ok ρ (!c) := ap_notT (ρ := s0 :: ρ0) t
theorem cp_notX (f : Mo Ar) : notX f (s0 :: ρ0) = bR (truO f (s0 :: ρ0)) fun ρ c => .ok ρ (.fz (.bl (!c))) := ap_notX (ρ := s0 :: ρ0) f
theorem cp_andO (f g : Mo Ar) : andO f g (s0 :: ρ0) = bR (f (s0 :: ρ0)) fun ρ a => oR (con ρ a) (fun d => oR (truD d) (fun b => cR b (g ρ) (.ok ρ a)) .bad) .bad := ap_andO (ρ := s0 :: ρ0) f g
theorem cp_orO (f g : Mo Ar) : orO f g (s0 :: ρ0) = bR (f (s0 :: ρ0)) fun ρ a => oR (con ρ a) (fun d => oR (truD d) (fun b => cR b (.ok ρ a) (g ρ)) .bad) .bad := ap_orO (ρ := s0 :: ρ0) f g
theorem cp_ifE (t : Mo Bool) (f g : Mo α) : ifE t f g (s0 :: ρ0) = bR (t (s0 :: ρ0)) fun ρ c => cR c (f ρ) (g ρ) := ap_ifE (ρ := s0 :: ρ0) t f g
theorem cp_chX (g g' : D → D → Option Sl) (fa fb fc : Mo Ar) : chX g g' fa fb fc (s0 :: ρ0) = bR (fa (s0 :: ρ0)) fun ρ a => bR (fb ρ) fun ρ b => oR (con ρ a) (fun d1 => oR (con ρ b) (fun d2 => oR (g d1 d2) (fun s => oR (blO s) (fun q => cR q (bR (fc ρ) fun ρ' c => oR (con ρ' b) (fun d2 => oR (con ρ' c) (fun d3 => oR (g' d2 d3) (fun s => .ok ρ' s) .bad) .bad) .bad) (.ok ρ (.fz (.bl false)))) .bad) .bad) .bad) .bad := ap_chX (ρ := s0 :: ρ0) g g' fa fb fc
theorem cp_noO : noO (s0 :: ρ0) = .ok (s0 :: ρ0) none := ap_noO (ρ := s0 :: ρ0) 
theorem cp_ptO (f : Mo Ar) : ptO f (s0 :: ρ0) = bR (f (s0 :: ρ0)) fun ρ a => oR (con ρ a) (ptS ρ) .bad := ap_ptO (ρ := s0 :: ρ0) f
theorem cp_slX (f : Mo Ar) (lo hi : Mo (Option Int)) : slX f lo hi (s0 :: ρ0) = bR (f (s0 :: ρ0)) fun ρ a => bR (lo ρ) fun ρ l => bR (hi ρ) fun ρ u => oR (con ρ a) (fun d => oR (slD l u d) (fun s => .ok ρ s) .bad) .bad := ap_slX (ρ := s0 :: ρ0) f lo hi
theorem cp_tupX (f : Mo (List D)) : tupX f (s0 :: ρ0) = bR (f (s0 :: ρ0)) fun ρ ds => cR (decide (ds.length ≤ sizeLine)) (.ok ρ (.fz (.tup ds))) .bad := ap_tupX (ρ := s0 :: ρ0) f
theorem cp_lstX (f : Mo (List D)) : lstX f (s0 :: ρ0) = bR (f (s0 :: ρ0)) fun ρ ds => cR (decide (ds.length ≤ sizeLine)) (.ok ρ (.ow false ds)) .bad := ap_lstX (ρ := s0 :: ρ0) f
theorem cp_dic0X : dic0X (s0 :: ρ0) = .ok (s0 :: ρ0) (.fz (.dic [])) := ap_dic0X (ρ := s0 :: ρ0) 
theorem cp_itX (f : Mo D) : itX f (s0 :: ρ0) = bR (f (s0 :: ρ0)) fun ρ d => oR (itemsD d) (fun ds => .ok ρ ds) .bad := ap_itX (ρ := s0 :: ρ0) f
theorem cp_enX (f : Mo D) : enX f (s0 :: ρ0) = bR (f (s0 :: ρ0)) fun ρ d => oR (enumD d) (fun ds => .ok ρ ds) .bad := ap_enX (ρ := s0 :: ρ0) f
theorem cp_rg1 (f : Mo Ar) : rg1 f (s0 :: ρ0) = bR (f (s0 :: ρ0)) fun ρ a => oR (con ρ a) (rgS ρ) .bad := ap_rg1 (ρ := s0 :: ρ0) f
theorem cp_gN (i : Nat) (d : D) : gN i d (s0 :: ρ0) = cR (free (s0 :: ρ0) i) (.nx ((s0 :: ρ0).set i (.fz d))) .bad := ap_gN (ρ := s0 :: ρ0) i d
theorem cp_gNilD : gNilD [] (s0 :: ρ0) = .nx (s0 :: ρ0) := ap_gNilD (ρ := s0 :: ρ0) 
theorem cp_gConsD (t : D → So) (u : List D → So) (d : D) (ds : List D) : gConsD t u (d :: ds) (s0 :: ρ0) = nS (t d (s0 :: ρ0)) (u ds) := ap_gConsD (ρ := s0 :: ρ0) t u d ds
theorem cp_gTupD (n : Nat) (u : List D → So) (ds : List D) : gTupD n u (.tup ds) (s0 :: ρ0) = cR (decide (ds.length = n)) (u ds (s0 :: ρ0)) .bad := ap_gTupD (ρ := s0 :: ρ0) n u ds
theorem cp_asgS (f : Mo D) (t : D → So) : asgS f t (s0 :: ρ0) = bS (f (s0 :: ρ0)) fun ρ d => gS (t d ρ) .nx .bad := ap_asgS (ρ := s0 :: ρ0) f t
theorem cp_forS (f : Mo (List D)) (t : D → So) (body : So) : forS f t body (s0 :: ρ0) = bS (f (s0 :: ρ0)) fun ρ ds => loopS t body ds ρ := ap_forS (ρ := s0 :: ρ0) f t body
theorem cp_loopS_cons (t : D → So) (body : So) (d : D) (ds : List D) : loopS t body (d :: ds) (s0 :: ρ0) = gS (t d (s0 :: ρ0)) (fun ρ => lS (body ρ) (loopS t body ds)) .bad := loopS_cons (ρ := s0 :: ρ0) t body d ds
theorem cp_callX (F : Mo Sl) (more : List D) (fa : Mo (List Ar)) : callX F more fa (s0 :: ρ0) = bR (fa (s0 :: ρ0)) fun ρ as => cR (decide (ownIx ρ as).Nodup) (pR ρ as (F (argS ρ as ++ more.map .fz))) .bad := ap_callX (ρ := s0 :: ρ0) F more fa
theorem cp_appF (F : Mo Sl) (more : List D) (as : List Ar) : appF F more as (s0 :: ρ0) = cR (decide (ownIx (s0 :: ρ0) as).Nodup) (pR (s0 :: ρ0) as (F (argS (s0 :: ρ0) as ++ more.map .fz))) .bad := ap_appF (ρ := s0 :: ρ0) F more as
theorem cp_mkX (c : Nat) (F : Mo Sl) (more : List D) (fa : Mo (List Ar)) : mkX c F more fa (s0 :: ρ0) = bR (fa (s0 :: ρ0)) fun ρ as => takeR (α := Unit) ρ.length ρ.length (appF F more (.sl ρ.length :: as) (ρ ++ [.oo false c []])) := ap_mkX (ρ := s0 :: ρ0) c F more fa
theorem cp_fldS (c i : Nat) (f : Str) (fd : Mo D) : fldS c i f fd (s0 :: ρ0) = bS (fd (s0 :: ρ0)) fun ρ d => oR ρ[i]? (flS c i f ρ d) .bad := ap_fldS (ρ := s0 :: ρ0) c i f fd
theorem cp_attX (cs : List (Nat × Bool)) (f : Str) (fo : Mo Ar) : attX cs f fo (s0 :: ρ0) = bR (fo (s0 :: ρ0)) fun ρ a => oR (attD cs f ρ a) (fun d => .ok ρ (.vl d)) .bad := ap_attX (ρ := s0 :: ρ0) cs f fo
theorem cp_raiseS1 (c : Nat) (f : Str) (fd : Mo D) : raiseS1 c f fd (s0 :: ρ0) = bS (fd (s0 :: ρ0)) fun ρ d => .exc ρ c [(f, d)] := ap_raiseS1 (ρ := s0 :: ρ0) c f fd
theorem cp_raiseS0 (c : Nat) : raiseS0 c (s0 :: ρ0) = .exc (s0 :: ρ0) c [] := ap_raiseS0 (ρ := s0 :: ρ0) c
theorem cp_tryS (b : So) (hs : List Hd) : tryS b hs (s0 :: ρ0) = hS (b (s0 :: ρ0)) (handle hs) := ap_tryS (ρ := s0 :: ρ0) b hs
theorem cp_muX (i : Nat) (g : List D → List D → Option (List D × D)) (f : Mo (List D)) : muX i g f (s0 :: ρ0) = bR (f (s0 :: ρ0)) fun ρ ds => oR ρ[i]? (muS ρ i g ds) .bad := ap_muX (ρ := s0 :: ρ0) i g f
theorem cp_muN (i : Nat) (f : Mo Sl) : muN i f (s0 :: ρ0) = cR (oR (s0 :: ρ0)[i]? owB false) (f (s0 :: ρ0)) .bad := ap_muN (ρ := s0 :: ρ0) i f
theorem cp_mtX (T : String) (g : D → List D → Option Sl) (fo : Mo Ar) (fa : Mo (List Ar)) : mtX T g fo fa (s0 :: ρ0) = bR (fo (s0 :: ρ0)) fun ρ o => oR (con ρ o) (fun d => cR (kindIs T d) (bR (fa ρ) fun ρ' as => oR (con ρ' o) (fun d' => oR (conS ρ' as) (fun ds => oR (g d' ds) (fun s => .ok ρ' s) .bad) .bad) .bad) .bad) .bad := ap_mtX (ρ := s0 :: ρ0) T g fo fa
theorem cp_hasOw_eq (i : Nat) : hasOw (s0 :: ρ0) i = oR (s0 :: ρ0)[i]? owB false := hasOw_eq (ρ := s0 :: ρ0) i
theorem cp_gSubD (i : Nat) (fi : Mo Ar) (d : D) : gSubD i fi d (s0 :: ρ0) = cR (hasOw (s0 :: ρ0) i) (xS (fi (s0 :: ρ0)) fun ρ1 a => oR (con ρ1 a) (gbD ρ1 i d) .bad) .bad := ap_gSubD (ρ := s0 :: ρ0) i fi d
theorem cp_parS (i j : Nat) (f : Mo (List D)) : parS i j f (s0 :: ρ0) = bS (f (s0 :: ρ0)) fun ρ ds => (match ds with | [d1, d2] => cR (free2 ρ i j) (.nx ((ρ.set i (.fz d1)).set j (.fz d2))) .bad | _ => .bad) := ap_parS (ρ := s0 :: ρ0) i j f
theorem cp_kwX (F : Mo Sl) (perm : List Nat) (more : List D) (fa fk : Mo (List Ar)) : kwX F perm more fa fk (s0 :: ρ0) = bR (fa (s0 :: ρ0)) fun ρ as => bR (fk ρ) fun ρ bs => appF F [] (selL perm (as ++ bs ++ more.map .vl)) ρ := ap_kwX (ρ := s0 :: ρ0) F perm more fa fk
theorem cp_yesT : yesT (s0 :: ρ0) = .ok (s0 :: ρ0) true := ap_yesT (ρ := s0 :: ρ0) 
theorem cp_compX (own : List Nat) (f : Mo (List D)) (t : D → So) (tt : Mo Bool) (el : Mo D) : compX own f t tt el (s0 :: ρ0) = bR (f (s0 :: ρ0)) fun ρ ds => cR (decide (ds.length < sizeLine) && own.all (plainSl ρ)) (kR (compL own t tt el ds ρ) fun ρ ys => .ok ρ (.ow false ys)) .bad := ap_compX (ρ := s0 :: ρ0) own f t tt el
theorem cp_compL_cons (own : List Nat) (t : D → So) (tt : Mo Bool) (el : Mo D) (d : D) (ds : List D) : compL own t tt el (d :: ds) (s0 :: ρ0) = gS (t d (wipeD (s0 :: ρ0) own)) (fun ρ1 => kR (tt ρ1) fun ρ2 q => cR q (kR (el ρ2) fun ρ3 y => kR (compL own t tt el ds (mixD (s0 :: ρ0) ρ3 own)) fun ρ4 ys => .ok ρ4 (y :: ys)) (compL own t tt el ds (mixD (s0 :: ρ0) ρ2 own))) .bad := compL_cons (ρ := s0 :: ρ0) own t tt el d ds
end
end L2.WD
/-! The data layer, part 22: plain facts of loops, comprehensions, lists, texts. -/
namespace L2.WD
open PySem PySem.Spec PySem.Calls PyProof.Rows
theorem loopS_inv {t : D → So} {body : So} (I : Nat → List Sl → Prop) : ∀ (ds : List D) (k : Nat) (ρ : List Sl), I k ρ → (∀ (j : Nat) (d : D) (ρ : List Sl), ds[j]? = some d → I (k + j) ρ → ∃ ρ1 ρ2, t d ρ = .nx ρ1 ∧ (body ρ1 = .nx ρ2 ∨ body ρ1 = .ct ρ2) ∧ I (k + j + 1) ρ2) →
    ∃ ρ', loopS t body ds ρ = .nx ρ' ∧ I (k + ds.length) ρ'
  | [], k, ρ, h, _ => ⟨ρ, rfl, h⟩
  | d :: ds, k, ρ, h, st => by
    obtain ⟨ρ1, ρ2, e1, e2, h2⟩ := st 0 d ρ rfl h
    obtain ⟨ρ', e3, h3⟩ := loopS_inv I ds (k + 1) ρ2 h2 fun j d' ρ hj hi => by
      have := st (j + 1) d' ρ (by simpa using hj) (by rw [show k + (j + 1) = k + 1 + j by omega]; exact hi)
      rw [show k + (j + 1) = k + 1 + j by omega] at this
      exact this
    refine ⟨ρ', ?_, ?_⟩
    · rw [loopS_cons, e1, gS_nx]
      rcases e2 with e2 | e2 <;> rw [e2]
      · exact e3
      · exact e3
    · rw [show k + (d :: ds).length = k + 1 + ds.length by simp; omega]
      exact h3
theorem compL_inv {own : List Nat} {t : D → So} {el : Mo D} (I : List Sl → Prop) (J : D → Prop) : ∀ (ds : List D) (ρ : List Sl), I ρ → (∀ d ∈ ds, ∀ ρ, I ρ → ∃ ρ1 ρ2 y, t d (wipeD ρ own) = .nx ρ1 ∧ el ρ1 = .ok ρ2 y ∧ I (mixD ρ ρ2 own) ∧ J y) →
    ∃ ρ' ys, compL own t yesT el ds ρ = .ok ρ' ys ∧ I ρ' ∧ ys.length = ds.length ∧ ∀ y ∈ ys, J y
  | [], ρ, h, _ => ⟨ρ, [], rfl, h, rfl, fun _ z => by cases z⟩
  | d :: ds, ρ, h, st => by
    obtain ⟨ρ1, ρ2, y, e1, e2, h2, hy⟩ := st d (by simp) ρ h
    obtain ⟨ρ', ys, e3, h3, hl, hys⟩ := compL_inv I J ds _ h2 fun d' hd => st d' (by simp [hd])
    refine ⟨ρ', y :: ys, ?_, h3, by simp [hl], fun z hz => ?_⟩
    · rw [compL_cons, e1, gS_nx, ap_yesT, kR_ok, cR_true, e2, kR_ok, e3, kR_ok]
    · rcases List.mem_cons.mp hz with rfl | hz
      · exact hy
      · exact hys z hz
theorem compX_map {own : List Nat} {t : D → So} {el : Mo D} {ρ : List Sl} {f : Mo (List D)} {ds : List D} (g : D → D) (hf : f ρ = .ok ρ ds) (hl : ds.length < sizeLine) (hp : own.all (plainSl ρ) = true) (h : ∀ d ∈ ds, ∃ ρ1 ρ2, t d (wipeD ρ own) = .nx ρ1 ∧ el ρ1 = .ok ρ2 (g d) ∧ mixD ρ ρ2 own = ρ) :
    compX own f t yesT el ρ = .ok ρ (.ow false (ds.map g)) := by
  rw [ap_compX, hf, bR_ok, decide_eq_true hl, hp, Bool.and_self, cR_true, compL_map g ds h, kR_ok]
theorem compX_inv {own : List Nat} {t : D → So} {el : Mo D} {ρ : List Sl} {f : Mo (List D)} {ds : List D} (I : List Sl → Prop) (J : D → Prop) (hf : f ρ = .ok ρ ds) (hl : ds.length < sizeLine) (hp : own.all (plainSl ρ) = true) (h0 : I ρ)
    (h : ∀ d ∈ ds, ∀ ρ, I ρ → ∃ ρ1 ρ2 y, t d (wipeD ρ own) = .nx ρ1 ∧ el ρ1 = .ok ρ2 y ∧ I (mixD ρ ρ2 own) ∧ J y) :
    ∃ ρ' ys, compX own f t yesT el ρ = .ok ρ' (.ow false ys) ∧ I ρ' ∧ ys.length = ds.length ∧ ∀ y ∈ ys, J y := by
  obtain ⟨ρ', ys, e, r⟩ := compL_inv I J ds ρ h0 h
  exact ⟨ρ', ys, by rw [ap_compX, hf, bR_ok, decide_eq_true hl, hp, Bool.and_self, cR_true, e, kR_ok], r⟩
theorem atI_in {α : Type} {xs : List α} {i : Int} (h0 : 0 ≤ i) (h1 : i < xs.length) : ∃ d, d ∈ xs ∧ L2.atI xs i = some d := by
  have hi : i.toNat < xs.length := by omega
  refine ⟨xs[i.toNat], List.getElem_mem hi, ?_⟩
  unfold L2.atI ixN
  rw [if_pos h0, if_pos (by omega)]
  show xs[i.toNat]? = _
  rw [List.getElem?_eq_getElem hi]
theorem ixD_lst {xs : List D} {i : Int} (h0 : 0 ≤ i) (h1 : i < xs.length) : ∃ d, d ∈ xs ∧ ixD (.lst xs) (.int i) = some (.fz d) := by
  obtain ⟨d, h, e⟩ := atI_in h0 h1
  exact ⟨d, h, by show (L2.atI xs i).map Sl.fz = _; rw [e]; rfl⟩
theorem ixD_tup {xs : List D} {i : Int} (h0 : 0 ≤ i) (h1 : i < xs.length) : ∃ d, d ∈ xs ∧ ixD (.tup xs) (.int i) = some (.fz d) := by
  obtain ⟨d, h, e⟩ := atI_in h0 h1
  exact ⟨d, h, by show (L2.atI xs i).map Sl.fz = _; rw [e]; rfl⟩
theorem len_toList (z : Str) : z.cps.toList.length = z.length := rfl
theorem ixD_str {z : Str} {i : Int} (hz : z.length ≤ 1000) (h0 : 0 ≤ i) (h1 : i < z.length) : ∃ c, c ∈ z.cps.toList ∧ ixD (.str z) (.int i) = some (.fz (.str ⟨#[c]⟩)) := by
  obtain ⟨c, h, e⟩ := atI_in (xs := z.cps.toList) h0 (by rw [len_toList]; exact h1)
  refine ⟨c, h, ?_⟩
  show (if z.length ≤ sizeLine then (L2.atI z.cps.toList i).map fun c => Sl.fz (.str ⟨#[c]⟩) else none) = _
  rw [if_pos (Nat.le_trans hz (by decide)), e]
  rfl
theorem addD_str {a b : Str} (h : a.length + b.length ≤ 1000) : addD (.str a) (.str b) = some (.fz (.str (a ++ b))) := by
  show (if a.length + b.length ≤ sizeLine then some (Sl.fz (.str (a ++ b))) else none) = _
  rw [if_pos (Nat.le_trans h (by decide))]
theorem len_add (a b : Str) : (a ++ b).length = a.length + b.length := PySem.Str.length_append a b
theorem cutS_len (z : Str) (lo hi : Option Int) : (cutS z lo hi).length ≤ z.length := by
  show ((z.cps.toList.drop (HT.sIx z.length 0 lo)).take (HT.sIx z.length z.length hi - HT.sIx z.length 0 lo)).toArray.size ≤ z.length
  rw [List.size_toArray, List.length_take, List.length_drop, len_toList]
  omega
theorem slD_str {z : Str} {lo hi : Option Int} (h : z.length ≤ 1000) : slD lo hi (.str z) = some (.fz (.str (cutS z lo hi))) := by
  show (if z.length ≤ sizeLine then some (Sl.fz (.str (cutS z lo hi))) else none) = _
  rw [if_pos (Nat.le_trans h (by decide))]
theorem lenD_str {z : Str} (h : z.length ≤ 1000) : lenD (.str z) = some (.fz (.int z.length)) := by
  show (if z.length ≤ sizeLine then some (Sl.fz (.int z.length)) else none) = _
  rw [if_pos (Nat.le_trans h (by decide))]
theorem upper_str {z : Str} (h : z.length ≤ 1000) : upperG (.str z) [] = some (.fz (.str (Txt.upper z))) := by
  show (if z.length ≤ 5592405 then some (Sl.fz (.str (Txt.upper z))) else none) = _
  rw [if_pos (by omega)]
theorem mem_rngD {lo hi : Int} {d : D} (h : d ∈ rngD lo hi) : ∃ i : Int, d = .int i ∧ lo ≤ i ∧ i < hi := by
  unfold rngD at h
  obtain ⟨n, hn, e⟩ := List.mem_map.mp h
  rw [List.mem_range] at hn
  exact ⟨lo + n, e.symm, by omega, by omega⟩
theorem rngD_length (lo hi : Int) : (rngD lo hi).length = (hi - lo).toNat := by simp [rngD]
theorem divmodD_eq {i j : Int} (h0 : 0 < j) (h1 : j < 1073741824) : divmodD (.int i) (.int j) = some (.fz (.tup [.int (i / j), .int (i % j)])) := by
  show (if 0 < j ∧ j < 1073741824 then some (Sl.fz (.tup [.int (i / j), .int (i % j)])) else none) = _
  rw [if_pos ⟨h0, h1⟩]
theorem rgS_nat {ρ : List Sl} {n : Nat} (h : n ≤ 1000000) : rgS ρ (.int n) = .ok ρ (rngD 0 n) := by
  simp only [rgS]
  rw [decide_eq_true (by constructor <;> omega), cR_true]
theorem addD_int {i j : Int} : addD (.int i) (.int j) = some (.fz (.int (i + j))) := rfl
theorem subD_int {i j : Int} : subD (.int i) (.int j) = some (.fz (.int (i - j))) := rfl
end L2.WD
namespace Dn
open PySem PySem.Spec PyProof.Rows L2 L2.WD
def isiKs : List Nat := [0, 1, 2, 3, 4, 5, 6, 7, 8, 9, 10, 11, 12, 13, 14, 15, 16, 17, 18, 19, 20, 21, 22, 23, 24, 25, 26, 27, 28, 29, 30, 31, 32, 33, 34, 35]
def ancL : List (List Nat) := [[0], [1, 2], [2], [3], [4], [5], [6], [7], [8], [9], [10, 7], [11, 8], [12, 9], [13, 10, 7], [14, 10, 7], [15, 10, 7], [16, 10, 7], [17, 10, 7], [18, 10, 7], [19, 10, 7], [20, 10, 7], [21, 10, 7], [22, 10, 7], [23, 10, 7], [24, 10, 7], [25, 10, 7], [26, 10, 7], [27, 10, 7], [28, 10, 7], [29, 11, 8], [30, 11, 8], [31, 11, 8], [32, 11, 8], [33, 12, 9], [34], [35]]
def excL : List Nat := [0, 1, 2, 3, 4, 5, 6, 7, 8, 9, 10, 11, 12, 13, 14, 15, 16, 17, 18, 19, 20, 21, 22, 23]
def insL : List Nat := [24, 25]
def isiF : List D → Option Sl := isiG (ancT isiKs ancL) insL.contains excL.contains
def catF (k : Nat) : Nat → Option Bool := catT excL ancL k
def c_WORDS : D := .tup [.str "all", .str "and", .str "children", .str "childless", .str "crown", .str "else", .str "if", .str "lives", .str "not", .str "of", .str "or", .str "stock", .str "to"]
/-- _law_sort -/
def g58 : So := (seqS (setS 1 (lstX (consD (frzD (caX isiF (consA (nmO 0) (consA (cO (.cls 3)) nilA)))) (consD (frzD (caX isiF (consA (nmO 0) (consA (cO (.cls 4)) nilA)))) (consD (frzD (caX isiF (consA (nmO 0) (consA (cO (.cls 5)) nilA)))) nilD))))) (seqS (setS 1 (binX addD (nmO 1) (frzO (lstX (consD (frzD (caX isiF (consA (nmO 0) (consA (cO (.cls 6)) nilA)))) (consD (frzD (caX isiF (consA (nmO 0) (consA (cO (.cls 7)) nilA)))) (consD (frzD (caX isiF (consA (nmO 0) (consA (cO (.cls 8)) nilA)))) nilD))))))) (seqS (setS 1 (binX addD (nmO 1) (frzO (lstX (consD (frzD (caX isiF (consA (nmO 0) (consA (cO (.cls 9)) nilA)))) (consD (frzD (caX isiF (consA (nmO 0) (consA (cO (.cls 10)) nilA)))) (consD (frzD (caX isiF (consA (nmO 0) (consA (cO (.cls 11)) nilA)))) nilD))))))) (seqS (setS 1 (binX addD (nmO 1) (frzO (lstX (consD (frzD (caX isiF (consA (nmO 0) (consA (cO (.cls 12)) nilA)))) (consD (frzD (caX isiF (consA (nmO 0) (consA (cO (.cls 13)) nilA)))) (consD (frzD (caX isiF (consA (nmO 0) (consA (cO (.cls 14)) nilA)))) nilD))))))) (seqS (setS 1 (binX addD (nmO 1) (frzO (lstX (consD (frzD (caX isiF (consA (nmO 0) (consA (cO (.cls 15)) nilA)))) (consD (frzD (caX isiF (consA (nmO 0) (consA (cO (.cls 16)) nilA)))) (consD (frzD (caX isiF (consA (nmO 0) (consA (cO (.cls 17)) nilA)))) nilD))))))) (seqS (setS 1 (binX addD (nmO 1) (frzO (lstX (consD (frzD (caX isiF (consA (nmO 0) (consA (cO (.cls 18)) nilA)))) (consD (frzD (caX isiF (consA (nmO 0) (consA (cO (.cls 19)) nilA)))) (consD (frzD (caX isiF (consA (nmO 0) (consA (cO (.cls 20)) nilA)))) nilD))))))) (seqS (setS 1 (binX addD (nmO 1) (frzO (lstX (consD (frzD (caX isiF (consA (nmO 0) (consA (cO (.cls 21)) nilA)))) (consD (frzD (caX isiF (consA (nmO 0) (consA (cO (.cls 22)) nilA)))) (consD (frzD (caX isiF (consA (nmO 0) (consA (cO (.cls 23)) nilA)))) nilD))))))) (seqS (setS 2 (lstX (consD (valD (cO (.str "name"))) (consD (valD (cO (.str "sum"))) (consD (valD (cO (.str "shares"))) (consD (valD (cO (.str "people"))) (consD (valD (cO (.str "goods"))) (consD (valD (cO (.str "text"))) (consD (valD (cO (.str "story"))) (consD (valD (cO (.str "day"))) (consD (valD (cO (.str "cond"))) (consD (valD (cO (.str "whom"))) (consD (valD (cO (.str "clause"))) (consD (valD (cO (.str "reading"))) nilD)))))))))))))) (seqS (setS 2 (binX addD (nmO 2) (frzO (lstX (consD (valD (cO (.str "word"))) (consD (valD (cO (.str "label stands"))) (consD (valD (cO (.str "day stands"))) (consD (valD (cO (.str "row"))) (consD (valD (cO (.str "person"))) (consD (valD (cO (.str "thing"))) (consD (valD (cO (.str "label"))) (consD (valD (cO (.str "undo"))) (consD (valD (cO (.str "many"))) nilD))))))))))))) (seqS (ifS (tstB (binX (eqD true) (frzO (mtX "list" countG (nmO 1) (consA (cO (.bl true)) nilA))) (cO (.int 1)))) (retS (valO (cO (.str "other")))) nxS) (seqS (setS 3 (mtX "list" indexG (nmO 1) (consA (cO (.bl true)) nilA))) (seqS (setS 4 (lstX (consD (frzD (caX isiF (consA (nmO 0) (consA (cO (.cls 0)) nilA)))) (consD (frzD (caX isiF (consA (nmO 0) (consA (cO (.cls 1)) nilA)))) (consD (frzD (caX isiF (consA (nmO 0) (consA (cO (.cls 2)) nilA)))) nilD))))) (seqS (setS 5 (lstX (consD (frzD (caX isiF (consA (nmO 0) (consA (cO (.ty "ValueError")) nilA)))) (consD (frzD (caX isiF (consA (nmO 0) (consA (cO (.ty "LookupError")) nilA)))) (consD (frzD (caX isiF (consA (nmO 0) (consA (cO (.ty "ArithmeticError")) nilA)))) nilD))))) (seqS (setS 6 (lstX (consD (frzD (binX ltD (nmO 3) (cO (.int 16)))) (consD (frzD (chX leD ltD (cO (.int 16)) (nmO 3) (cO (.int 20)))) (consD (frzD (binX (eqD false) (nmO 3) (cO (.int 20)))) nilD))))) (retS (binX ixD (frzO (lstX (consD (frzD (binX ixD (nmO 2) (nmO 3))) (consD (valD (cO (.str "other"))) nilD)))) (frzO (caX (one int1D) (consA (orO (frzO (binX (eqD true) (nmO 4) (nmO 6))) (frzO (binX (eqD true) (nmO 5) (nmO 6)))) nilA)))))))))))))))))))
def F58 : Mo Sl := bodyF 7 g58
/-- is_whole -/
def g16 : So := (retS (valO (andO (frzO (caX isiF (consA (nmO 0) (consA (cO (.ty "int")) nilA)))) (frzO (notX (frzO (caX isiF (consA (nmO 0) (consA (cO (.ty "bool")) nilA)))))))))
def F16 : Mo Sl := bodyF 1 g16
/-- is_between -/
def g17 : So := (retS (valO (andO (frzO (callX F16 [] (consA (nmO 0) nilA))) (frzO (chX leD leD (nmO 1) (nmO 0) (nmO 2))))))
def F17 : Mo Sl := bodyF 3 g17
/-- parted -/
def g46 : So := (seqS (ifS (notT (truO (frzO (callX F17 [] (consA (nmO 0) (consA (cO (.int 0)) (consA (cO (.int 1000000000000)) nilA))))))) (raiseS1 4 "thing" (frD 0)) nxS) (seqS (ifS (notT (truO (frzO badX))) (raiseS0 5) nxS) (retS badX)))
def F46 : Mo Sl := bodyF 2 g46
/-- is_name -/
def g18 : So := (seqS (ifS (orT (notT (truO (frzO (caX isiF (consA (nmO 0) (consA (cO (.ty "str")) nilA)))))) (orT (notT (tstB (chX leD leD (cO (.int 1)) (frzO (caX (one lenD) (consA (nmO 0) nilA))) (cO (.int 8))))) (tstB (binX (inD false) (nmO 0) (cO c_WORDS))))) (retS (valO (cO (.bl false)))) nxS) (retS (caX (one (allD fun bs => bs.all id)) (consA (frzO (compX [1] (itX (frD 0)) (gN 1) yesT (frzD (binX (inD false) (nmO 1) (cO (.str "abcdefghijklmnopqrstuvwxyz")))))) nilA))))
def F18 : Mo Sl := bodyF 2 g18
/-- is_day -/
def g22 : So := (retS (callX F17 [] (consA (nmO 0) (consA (frzO (binX subD (cO (.int 0)) (cO (.int 9999)))) (consA (cO (.int 9999)) nilA)))))
def F22 : Mo Sl := bodyF 1 g22
/-- is_death -/
def g47 : So := (retS (valO (andO (frzO (caX isiF (consA (nmO 0) (consA (cO (.ty "tuple")) nilA)))) (andO (frzO (binX (eqD false) (frzO (caX (one lenD) (consA (nmO 0) nilA))) (cO (.int 2)))) (andO (frzO (callX F18 [] (consA (frzO (binX ixD (nmO 0) (cO (.int 0)))) nilA))) (frzO (callX F22 [] (consA (frzO (binX ixD (nmO 0) (cO (.int 1)))) nilA))))))))
def F47 : Mo Sl := bodyF 1 g47
/-- check_deaths -/
def g48 : So := (seqS (ifS (orT (notT (truO (frzO (caX isiF (consA (nmO 0) (consA (cO (.ty "tuple")) nilA)))))) (tstB (binX gtD (frzO (caX (one lenD) (consA (nmO 0) nilA))) (cO (.int 8))))) (raiseS1 9 "number" (valD (cO .non))) nxS) (forS (enX (frD 0)) (gTupD 2 (gConsD (gN 1) (gConsD (gN 2) gNilD))) (ifS (orT (notT (truO (frzO (callX F47 [] (consA (nmO 2) nilA))))) (andT (tstB (binX gtD (nmO 1) (cO (.int 0)))) (tstB (binX geD (frzO (binX ixD (frzO (binX ixD (nmO 0) (frzO (binX subD (nmO 1) (cO (.int 1)))))) (cO (.int 0)))) (frzO (binX ixD (nmO 2) (cO (.int 0)))))))) (raiseS1 9 "number" (frD 1)) nxS)))
def F48 : Mo Sl := bodyF 3 g48
/-- Story.__init__ -/
def g49 : So := (seqS (setS 1 (ifE (tstB (binX (isN false) (nmO 1) (cO .non))) (tupX nilD) (mvX 1))) (seqS (exprS (callX F48 [] (consA (nmO 1) nilA))) (fldS 25 0 "deaths" (frD 1))))
def F49 : Mo Sl := bodyF 2 g49
/-- is_sum -/
def g20 : So := (retS (callX F17 [] (consA (nmO 0) (consA (cO (.int 0)) (consA (cO (.int 1000000000)) nilA)))))
def F20 : Mo Sl := bodyF 1 g20
/-- check_sum -/
def g21 : So := (ifS (notT (truO (frzO (callX F20 [] (consA (nmO 0) nilA))))) (raiseS1 4 "thing" (frD 0)) nxS)
def F21 : Mo Sl := bodyF 1 g21
/-- is_ware -/
def g26 : So := (seqS (ifS (orT (notT (truO (frzO (caX isiF (consA (nmO 0) (consA (cO (.ty "tuple")) nilA)))))) (orT (tstB (binX (eqD true) (frzO (caX (one lenD) (consA (nmO 0) nilA))) (cO (.int 3)))) (orT (notT (truO (frzO (callX F18 [] (consA (frzO (binX ixD (nmO 0) (cO (.int 0)))) nilA))))) (tstB (binX (inD false) (frzO (binX ixD (nmO 0) (cO (.int 0)))) (nmO 1)))))) (retS (valO (cO (.bl false)))) nxS) (retS (valO (andO (frzO (callX F18 [] (consA (frzO (binX ixD (nmO 0) (cO (.int 1)))) nilA))) (frzO (callX F20 [] (consA (frzO (binX ixD (nmO 0) (cO (.int 2)))) nilA)))))))
def F26 : Mo Sl := bodyF 2 g26
/-- check_goods -/
def g27 : So := (seqS (ifS (orT (notT (truO (frzO (caX isiF (consA (nmO 0) (consA (cO (.ty "tuple")) nilA)))))) (tstB (binX gtD (frzO (caX (one lenD) (consA (nmO 0) nilA))) (cO (.int 8))))) (raiseS1 7 "number" (valD (cO .non))) nxS) (seqS (setS 1 (lstX nilD)) (forS (enX (frD 0)) (gTupD 2 (gConsD (gN 2) (gConsD (gN 3) gNilD))) (seqS (ifS (notT (truO (frzO (callX F26 [] (consA (nmO 3) (consA (nmO 1) nilA)))))) (raiseS1 7 "number" (frD 2)) nxS) (exprS (muN 1 (muX 1 appendG (consD (frzD (binX ixD (nmO 3) (cO (.int 0)))) nilD))))))))
def F27 : Mo Sl := bodyF 4 g27
/-- is_person -/
def g24 : So := (seqS (ifS (orT (notT (truO (frzO (caX isiF (consA (nmO 0) (consA (cO (.ty "tuple")) nilA)))))) (orT (tstB (binX (eqD true) (frzO (caX (one lenD) (consA (nmO 0) nilA))) (cO (.int 2)))) (orT (notT (truO (frzO (callX F18 [] (consA (frzO (binX ixD (nmO 0) (cO (.int 0)))) nilA))))) (tstB (binX (inD false) (frzO (binX ixD (nmO 0) (cO (.int 0)))) (nmO 1)))))) (retS (valO (cO (.bl false)))) nxS) (retS (valO (orO (frzO (binX (isN false) (frzO (binX ixD (nmO 0) (cO (.int 1)))) (cO .non))) (andO (frzO (callX F18 [] (consA (frzO (binX ixD (nmO 0) (cO (.int 1)))) nilA))) (frzO (binX (inD false) (frzO (binX ixD (nmO 0) (cO (.int 1)))) (nmO 1))))))))
def F24 : Mo Sl := bodyF 2 g24
/-- check_people -/
def g25 : So := (seqS (ifS (orT (notT (truO (frzO (caX isiF (consA (nmO 0) (consA (cO (.ty "tuple")) nilA)))))) (notT (tstB (chX leD leD (cO (.int 1)) (frzO (caX (one lenD) (consA (nmO 0) nilA))) (cO (.int 8)))))) (raiseS1 6 "number" (valD (cO .non))) nxS) (seqS (setS 1 (lstX nilD)) (forS (enX (frD 0)) (gTupD 2 (gConsD (gN 2) (gConsD (gN 3) gNilD))) (seqS (ifS (notT (truO (frzO (callX F24 [] (consA (nmO 3) (consA (nmO 1) nilA)))))) (raiseS1 6 "number" (frD 2)) nxS) (exprS (muN 1 (muX 1 appendG (consD (frzD (binX ixD (nmO 3) (cO (.int 0)))) nilD))))))))
def F25 : Mo Sl := bodyF 4 g25
/-- House.__init__ -/
def g28 : So := (seqS (exprS (callX F25 [] (consA (nmO 1) nilA))) (seqS (setS 2 (ifE (tstB (binX (isN false) (nmO 2) (cO .non))) (tupX nilD) (mvX 2))) (seqS (exprS (callX F27 [] (consA (nmO 2) nilA))) (seqS (exprS (callX F21 [] (consA (nmO 3) nilA))) (seqS (exprS (callX F21 [] (consA (nmO 4) nilA))) (seqS (fldS 24 0 "folk" (frD 1)) (seqS (fldS 24 0 "wares" (frD 2)) (seqS (fldS 24 0 "purse" (frD 3)) (fldS 24 0 "debts" (frD 4))))))))))
def F28 : Mo Sl := bodyF 5 g28
/-- _law_refused -/
def g61 : So := (seqS (setS 2 (valO (cO .non))) (seqS (tryS (ifS (tstB (binX (eqD false) (nmO 0) (cO (.int 0)))) (exprS (callX F46 [] (consA (frzO (binX subD (cO (.int 0)) (cO (.int 1)))) (consA (nmO 1) nilA)))) (ifS (tstB (binX (eqD false) (nmO 0) (cO (.int 1)))) (exprS (mkX 25 F49 [] (consA (frzO (tupX (consD (frzD (tupX (consD (frD 1) (consD (valD (cO (.int 3))) nilD)))) nilD))) nilA))) (exprS (mkX 24 F28 [.non, .int 0, .int 0] (consA (frzO (tupX (consD (frzD (tupX (consD (frD 1) (consD (valD (cO .non)) nilD)))) nilD))) nilA))))) [⟨catF 10, 4, (setS 2 (valO (frO 4)))⟩]) (seqS (setS 3 (callX F58 [] (consA (nmO 2) nilA))) (seqS (ifS (tstB (binX (eqD false) (nmO 3) (cO (.str "sum")))) (retS (tupX (consD (frD 3) (consD (valD (attX [(3, true), (4, true), (10, true), (14, true), (15, true), (17, true)] "thing" (nmO 2))) nilD)))) nxS) (seqS (ifS (tstB (binX (inD false) (nmO 3) (frzO (lstX (consD (valD (cO (.str "story"))) (consD (valD (cO (.str "people"))) nilD)))))) (retS (tupX (consD (frD 3) (consD (valD (attX [(6, true), (7, true), (9, true), (13, true)] "number" (nmO 2))) nilD)))) nxS) (retS (tupX (consD (frD 3) (consD (valD (cO .non)) nilD)))))))))
def F61 : Mo Sl := bodyF 5 g61
/-- _law_is_name -/
def g59 : So := (seqS (setS 1 (lstX (consD (valD (cO (.str "all"))) (consD (valD (cO (.str "and"))) (consD (valD (cO (.str "children"))) (consD (valD (cO (.str "childless"))) (consD (valD (cO (.str "crown"))) (consD (valD (cO (.str "else"))) (consD (valD (cO (.str "if"))) (consD (valD (cO (.str "lives"))) (consD (valD (cO (.str "not"))) (consD (valD (cO (.str "of"))) (consD (valD (cO (.str "or"))) (consD (valD (cO (.str "stock"))) (consD (valD (cO (.str "to"))) nilD))))))))))))))) (seqS (ifS (orT (notT (truO (frzO (caX isiF (consA (nmO 0) (consA (cO (.ty "str")) nilA)))))) (orT (notT (tstB (chX leD leD (cO (.int 1)) (frzO (caX (one lenD) (consA (nmO 0) nilA))) (cO (.int 8))))) (tstB (binX (inD false) (nmO 0) (nmO 1))))) (retS (valO (cO (.bl false)))) nxS) (retS (caX (one (allD fun bs => bs.all id)) (consA (frzO (compX [2] (itX (frD 0)) (gN 2) yesT (frzD (binX (inD false) (nmO 2) (cO (.str "abcdefghijklmnopqrstuvwxyz")))))) nilA)))))
def F59 : Mo Sl := bodyF 3 g59
/-- _law_take -/
def g57 : So := (seqS (asgS (frzD (caX (two divmodD) (consA (frzO (binX ixD (nmO 0) (cO (.int 0)))) (consA (nmO 1) nilA)))) (gTupD 2 (gConsD (gSubD 0 (cO (.int 0))) (gConsD (gN 2) gNilD)))) (retS (mvX 2)))
def F57 : Mo Sl := bodyF 3 g57
/-- _law_drawn -/
def g60 : So := (seqS (setS 1 (lstX (consD (valD (cO (.str "all"))) (consD (valD (cO (.str "and"))) (consD (valD (cO (.str "children"))) (consD (valD (cO (.str "childless"))) (consD (valD (cO (.str "crown"))) (consD (valD (cO (.str "else"))) (consD (valD (cO (.str "if"))) (consD (valD (cO (.str "lives"))) (consD (valD (cO (.str "not"))) (consD (valD (cO (.str "of"))) (consD (valD (cO (.str "or"))) (consD (valD (cO (.str "stock"))) (consD (valD (cO (.str "to"))) nilD))))))))))))))) (seqS (setS 2 (binX ixD (nmO 1) (frzO (callX F57 [] (consA (nmO 0) (consA (cO (.int 13)) nilA)))))) (seqS (ifS (tstB (binX gtD (frzO (callX F57 [] (consA (nmO 0) (consA (cO (.int 3)) nilA)))) (cO (.int 0)))) (seqS (setS 2 (valO (cO (.str "")))) (forS (rg1 (frzO (binX addD (cO (.int 1)) (frzO (callX F57 [] (consA (nmO 0) (consA (cO (.int 10)) nilA))))))) (gN 3) (setS 2 (binX addD (nmO 2) (frzO (binX ixD (cO (.str "abcdefghijklmnopqrstuvwxyz")) (frzO (callX F57 [] (consA (nmO 0) (consA (cO (.int 26)) nilA)))))))))) nxS) (seqS (setS 4 (callX F57 [] (consA (nmO 0) (consA (frzO (binX addD (frzO (caX (one lenD) (consA (nmO 2) nilA))) (cO (.int 1)))) nilA)))) (seqS (setS 5 (binX ixD (frzO (lstX (consD (valD (cO (.str "A"))) (consD (valD (cO (.str "0"))) (consD (valD (cO (.str " "))) (consD (valD (cO (.str "-"))) (consD (valD (cO (.str "\n"))) (consD (valD (cO (.str "z"))) (consD (valD (cO (.str "Z"))) (consD (valD (cO (.str "."))) nilD)))))))))) (frzO (callX F57 [] (consA (nmO 0) (consA (cO (.int 8)) nilA)))))) (seqS (setS 6 (lstX (consD (frD 2) (consD (frD 2) (consD (frzD (binX addD (frzO (binX addD (frzO (slX (nmO 2) noO (ptO (nmO 4)))) (nmO 5))) (frzO (slX (nmO 2) (ptO (nmO 4)) noO)))) (consD (frzD (binX addD (frzO (slX (nmO 2) noO (ptO (nmO 4)))) (frzO (slX (nmO 2) (ptO (frzO (binX addD (nmO 4) (cO (.int 1))))) noO)))) nilD)))))) (retS (binX ixD (frzO (binX addD (nmO 6) (frzO (lstX (consD (frzD (binX addD (frzO (binX addD (frzO (slX (nmO 2) noO (ptO (nmO 4)))) (nmO 5))) (frzO (slX (nmO 2) (ptO (frzO (binX addD (nmO 4) (cO (.int 1))))) noO)))) (consD (frzD (mtX "str" upperG (nmO 2) nilA)) nilD)))))) (frzO (callX F57 [] (consA (nmO 0) (consA (cO (.int 6)) nilA))))))))))))
def F60 : Mo Sl := bodyF 7 g60
/-- _law_pool -/
def g56 : So := (seqS (setS 2 (caX (one sumD) (consA (frzO (slX (nmO 0) (ptO (nmO 1)) (ptO (frzO (binX addD (nmO 1) (cO (.int 1))))))) nilA))) (seqS (ifS (orT (tstB (binX ltD (nmO 2) (cO (.int 0)))) (tstB (binX geD (nmO 2) (frzO (binX powD (cO (.int 10)) (cO (.int 18))))))) (retS (lstX (consD (frzD (binX modD (frzO (caX (one absD) (consA (nmO 2) nilA))) (frzO (binX mulD (frzO (binX mulD (frzO (binX mulD (frzO (binX mulD (frzO (binX mulD (frzO (binX powD (cO (.int 10)) (cO (.int 64)))) (frzO (binX powD (cO (.int 10)) (cO (.int 64)))))) (frzO (binX powD (cO (.int 10)) (cO (.int 64)))))) (frzO (binX powD (cO (.int 10)) (cO (.int 64)))))) (frzO (binX powD (cO (.int 10)) (cO (.int 64)))))) (frzO (binX powD (cO (.int 10)) (cO (.int 64)))))))) nilD))) nxS) (seqS (setS 3 (binX addD (frzO (binX addD (frzO (binX mulD (nmO 2) (cO (.int 48271)))) (frzO (binX mulD (frzO (binX mulD (cO (.int 977)) (nmO 1))) (nmO 1))))) (cO (.int 13)))) (seqS (setS 4 (valO (cO (.int 0)))) (seqS (forS (rg1 (cO (.int 27))) (gN 5) (seqS (setS 3 (binX modD (frzO (binX addD (frzO (binX addD (frzO (binX mulD (frzO (binX modD (nmO 3) (cO (.int 999999999989)))) (cO (.int 69621)))) (frzO (binX mulD (cO (.int 40503)) (nmO 5))))) (cO (.int 271)))) (cO (.int 999999999989)))) (setS 4 (binX addD (frzO (binX mulD (nmO 4) (frzO (binX powD (cO (.int 10)) (cO (.int 11)))))) (frzO (binX modD (frzO (binX mulD (nmO 3) (frzO (binX addD (frzO (binX modD (nmO 3) (cO (.int 65537)))) (cO (.int 3)))))) (cO (.int 99999999977)))))))) (retS (lstX (consD (frD 4) nilD))))))))
def F56 : Mo Sl := bodyF 6 g56
/-- law -/
def g62 : So := (seqS (setS 1 (lstX (consD (valD (cO .non)) (consD (valD (cO (.int 0))) (consD (valD (cO (.int 1))) (consD (valD (cO (.bl true))) (consD (valD (cO (.str ""))) (consD (valD (cO (.str " "))) (consD (frzD (tupX (consD (valD (cO (.str "ann"))) nilD))) (consD (frzD (lstX (consD (valD (cO (.str "ann"))) nilD))) (consD (frzD dic0X) (consD (frzD (tupX (consD (frzD (lstX nilD)) nilD))) (consD (frzD (lstX (consD (frzD (lstX (consD (valD (cO (.str "ann"))) nilD))) nilD))) (consD (valD (cO (.str "ann "))) (consD (valD (cO (.str "Ann"))) (consD (valD (cO (.str "a\nb"))) (consD (frzD (tupX nilD)) nilD))))))))))))))))) (seqS (exprS (muN 1 (muX 1 appendG (consD (valD (cO (.str "abcdefghi"))) nilD)))) (seqS (forS (rg1 (frzO (caX (two maxD) (consA (cO (.int 2)) (consA (frzO (caX (two minD) (consA (frzO (caX (one lenD) (consA (nmO 0) nilA))) (consA (cO (.int 16)) nilA)))) nilA))))) (gN 2) (seqS (setS 3 (callX F56 [] (consA (nmO 0) (consA (nmO 2) nilA)))) (seqS (setS 4 (compX [5] (rg1 (cO (.int 6))) (gN 5) yesT (frzD (callX F60 [] (consA (nmO 3) nilA))))) (seqS (forS (itX (frzD (binX addD (nmO 4) (nmO 1)))) (gN 6) (seqS (parS 7 8 (consD (frzD (callX F18 [] (consA (nmO 6) nilA))) (consD (frzD (callX F59 [] (consA (nmO 6) nilA))) nilD))) (seqS (ifS (orT (notT (truO (frzO (caX isiF (consA (nmO 7) (consA (cO (.ty "bool")) nilA)))))) (tstB (binX (eqD true) (nmO 7) (nmO 8)))) (retS (valO (cO (.bl false)))) nxS) (ifS (andT (notT (truO (nmO 8))) (tstB (binX (eqD true) (frzO (compX [9] (itX (frzD (lstX (consD (valD (cO (.int 1))) (consD (valD (cO (.int 2))) nilD))))) (gN 9) yesT (frzD (callX F61 [] (consA (nmO 9) (consA (nmO 6) nilA)))))) (frzO (lstX (consD (frzD (tupX (consD (valD (cO (.str "story"))) (consD (valD (cO (.int 0))) nilD)))) (consD (frzD (tupX (consD (valD (cO (.str "people"))) (consD (valD (cO (.int 0))) nilD)))) nilD))))))) (retS (valO (cO (.bl false)))) nxS)))) (ifS (orT (tstB (binX (eqD true) (frzO (callX F61 [] (consA (cO (.int 0)) (consA (frzO (binX ixD (nmO 4) (cO (.int 0)))) nilA)))) (frzO (tupX (consD (valD (cO (.str "sum"))) (consD (frzD (binX subD (cO (.int 0)) (cO (.int 1)))) nilD)))))) (notT (truO (frzO (kwX F18 [0] [] nilA (consA (cO (.str "abcdefgh")) nilA)))))) (retS (valO (cO (.bl false)))) nxS))))) (retS (valO (cO (.bl true)))))))
def F62 : Mo Sl := bodyF 10 g62
end Dn
namespace M
open PySem PySem.Spec PyProof.Rows L2 L2.WD Dn
/-! ### names -/
def wordsV : List V := [.str "all", .str "and", .str "children", .str "childless", .str "crown", .str "else", .str "if", .str "lives", .str "not", .str "of", .str "or", .str "stock", .str "to"]
def abc : Str := "abcdefghijklmnopqrstuvwxyz"
def signs (z : Str) : List D := z.cps.toList.map fun c => .str ⟨#[c]⟩
def inAbc : D → D
  | .str a => .bl (match a.cps.toList with
    | [c] => decide (c ∈ abc.cps.toList)
    | _ => false)
  | d => d
def nameB (z : Str) : Bool := if (decide ((1 : Int) ≤ z.length) && decide ((z.length : Int) ≤ 8)) = true ∧ inV (.str z) wordsV = false then (z.cps.toList.map fun c => decide (c ∈ abc.cps.toList)).all id else false
theorem signs_abc (z : Str) : (signs z).map inAbc = (z.cps.toList.map fun c => decide (c ∈ abc.cps.toList)).map D.bl := by
  unfold signs
  rw [List.map_map, List.map_map]
  apply List.map_congr_left
  intro c _
  rfl
theorem chLen {ρ : List Sl} {z : Str} (i : Nat) (hz : z.length ≤ 1000) (h : ρ[i]? = some (.fz (.str z))) : chX leD leD (cO (.int 1)) (frzO (caX (one lenD) (consA (nmO i) nilA))) (cO (.int 8)) ρ = .ok ρ (.fz (.bl (decide ((1 : Int) ≤ z.length) && decide ((z.length : Int) ≤ 8)))) := by
  have e1 : caX (one lenD) (consA (nmO i) nilA) ρ = .ok ρ (.fz (.int z.length)) := by
    rw [ap_caX, ap_consA, ap_nmO, h]
    simp only [oR_some, nmS, bR_ok, ap_nilA, conS_cons, con_sl, h, coS, conS_nil, one, lenD_str hz]
  rw [ap_chX, ap_cO, bR_ok, ap_frzO, e1]
  simp only [bR_ok, frz_fz, oR_some, con_vl]
  by_cases c : (1 : Int) ≤ z.length
  · have : leD (.int 1) (.int z.length) = some (.fz (.bl true)) := by
      show some (Sl.fz (.bl (decide ((1 : Int) ≤ z.length)))) = _
      rw [decide_eq_true c]
    rw [this]
    simp only [oR_some, blO, cR_true, ap_cO, bR_ok, con_vl, decide_eq_true c, Bool.true_and]
    try rfl
  · have : leD (.int 1) (.int z.length) = some (.fz (.bl false)) := by
      show some (Sl.fz (.bl (decide ((1 : Int) ≤ z.length)))) = _
      rw [decide_eq_false c]
    rw [this]
    simp only [oR_some, blO, cR_false, decide_eq_false c, Bool.false_and]
theorem comp_abc {ρ : List Sl} {z : Str} (j i : Nat) (hz : z.length ≤ 1000) (h : frD j ρ = .ok ρ (.str z)) (hp : ∀ d : D, gN i d (wipeD ρ [i]) = .nx (ρ.set i (.fz d))) (hp2 : [i].all (plainSl ρ) = true) (h3 : ∀ d : D, (ρ.set i (.fz d))[i]? = some (.fz d)) (h4 : ∀ d : D, mixD ρ (ρ.set i (.fz d)) [i] = ρ) :
    compX [i] (itX (frD j)) (gN i) yesT (frzD (binX (inD false) (nmO i) (cO (.str "abcdefghijklmnopqrstuvwxyz")))) ρ = .ok ρ (.ow false ((z.cps.toList.map fun c => decide (c ∈ abc.cps.toList)).map D.bl)) := by
  rw [← signs_abc]
  refine compX_map (ds := signs z) inAbc (by rw [ap_itX, h]; rfl) ?_ hp2 fun d hd => ?_
  · show (List.map _ _).length < _
    rw [List.length_map, len_toList]
    exact Nat.lt_of_le_of_lt hz (by decide)
  · obtain ⟨c, hc, rfl⟩ := List.mem_map.mp hd
    refine ⟨_, _, hp _, ?_, h4 (.str ⟨#[c]⟩)⟩
    rw [ap_frzD, ap_binX, ap_nmO, h3]
    simp only [oR_some, nmS, bR_ok, ap_cO, con_sl, h3, coS, con_vl]
    try rfl
theorem allD_bl (bs : List Bool) : allD (fun bs => bs.all id) (.lst (bs.map D.bl)) = some (.fz (.bl (bs.all id))) := by
  show (blsD (bs.map D.bl)).bind _ = _
  rw [blsD_map]
  rfl
theorem isn (z : Str) (hz : z.length ≤ 1000) : F18 [.fz (.str z)] = .ok [.fz (.str z)] (.fz (.bl (nameB z))) := by
  have e1 : caX isiF (consA (nmO 0) (consA (cO (.ty "str")) nilA)) [.fz (.str z), .no] = .ok [.fz (.str z), .no] (.fz (.bl true)) := by kernel_rfl
  have e2 := chLen (ρ := [.fz (.str z), .no]) 0 hz rfl
  have e3 : binX (inD false) (nmO 0) (cO c_WORDS) [.fz (.str z), .no] = .ok [.fz (.str z), .no] (.fz (.bl (inV (.str z) wordsV))) := by kernel_rfl
  have e4 := comp_abc (ρ := [.fz (.str z), .no]) 0 1 hz rfl (fun _ => rfl) rfl (fun _ => rfl) (fun _ => rfl)
  unfold F18 g18 nameB
  by_cases c : (decide ((1 : Int) ≤ z.length) && decide ((z.length : Int) ≤ 8)) = true
  · rw [c] at e2
    cases q : inV (.str z) wordsV with
    | true =>
      rw [q] at e3
      simp only [↓e1, ↓e2, ↓e3, c, bR_ok, bR_exc, bR_bad, kR_ok, bS_ok, bS_exc, bS_bad, nS_nx, nS_rt, nS_exc, nS_bk, nS_ct, nS_bad, gS_nx, lS_nx, lS_ct, lS_bk, lS_rt, lS_exc, fS_rt, fS_nx, fS_exc, hS_nx, hS_rt, hS_exc, pR_ok, pR_exc, oR_some, oR_none, cR_true, cR_false, xS_ok, con_vl, con_sl, conS_nil, conS_cons, loopS_nil, compL_nil, handle_nil, handle_cons, ap_bodyF, takeR_ok, takeR_exc, nmS, coS, vaS, vaA, vdS, vdA, mvS, frS, tsS, blO, ptS, muS, owB, gbS, gbD, flS, tkS, goneS, frz_fz, frz_ow, frz_oo, mine_no, mine_fz, mine_ow, mine_oo, owned_no, owned_fz, owned_ow, owned_oo, flag_no, flag_fz, flag_ow, flag_oo, give, back, argS, ownIx, wb, one, two, intS, blS, itemsD_lst, itemsD_tup, itemsD_scr, itemsD_str, enumD_lst, enumD_tup, numD_nil, numD_cons, truD_bl, truD_non, truD_int, truD_lst, truD_tup, attD, recOf, putFD, ap_gNilD, ap_gTupD, ap_gConsD, List.getElem?_cons_zero, List.getElem?_cons_succ, List.getElem?_nil, List.set_cons_zero, List.set_cons_succ, List.map_cons, List.map_nil, List.length_cons, List.length_nil, List.cons_append, List.nil_append, List.append_nil, List.replicate, List.getD_cons_zero, List.getD_cons_succ, List.getD_nil, List.nodup_nil, ite_true, ite_false, Bool.not_true, Bool.not_false, Bool.false_eq_true, reduceCtorEq, Nat.reduceSub, Nat.reduceAdd, List.nodup_cons, List.not_mem_nil, not_false_eq_true, and_self, and_true, true_and, decide_true, decide_false, List.take_succ_cons, List.take_zero, sizeLine_eq, Nat.zero_le, Nat.reduceLeDiff, Nat.reduceLT, Nat.reduceEqDiff, cp_bind, cp_pure, cp_bindS, cp_seqS, cp_nmO, cp_cO, cp_frzD, cp_frzO, cp_valO, cp_valD, cp_binX, cp_unX, cp_caX, cp_nilA, cp_consA, cp_nilD, cp_consD, cp_free_eq, cp_setS, cp_retS, cp_exprS, cp_ifS, cp_nxS, cp_retN, cp_mvX, cp_frD, cp_frO, cp_truO, cp_tstB, cp_andT, cp_orT, cp_notT, cp_notX, cp_andO, cp_orO, cp_ifE, cp_chX, cp_noO, cp_ptO, cp_slX, cp_tupX, cp_lstX, cp_dic0X, cp_itX, cp_enX, cp_rg1, cp_gN, cp_asgS, cp_forS, cp_loopS_cons, cp_callX, cp_appF, cp_mkX, cp_fldS, cp_attX, cp_raiseS1, cp_raiseS0, cp_tryS, cp_muX, cp_muN, cp_mtX, cp_hasOw_eq, cp_gSubD, cp_parS, cp_kwX, cp_yesT, cp_compX, cp_compL_cons]
      try rfl
    | false =>
      rw [q] at e3
      simp only [↓e1, ↓e2, ↓e3, ↓e4, c, bR_ok, bR_exc, bR_bad, kR_ok, bS_ok, bS_exc, bS_bad, nS_nx, nS_rt, nS_exc, nS_bk, nS_ct, nS_bad, gS_nx, lS_nx, lS_ct, lS_bk, lS_rt, lS_exc, fS_rt, fS_nx, fS_exc, hS_nx, hS_rt, hS_exc, pR_ok, pR_exc, oR_some, oR_none, cR_true, cR_false, xS_ok, con_vl, con_sl, conS_nil, conS_cons, loopS_nil, compL_nil, handle_nil, handle_cons, ap_bodyF, takeR_ok, takeR_exc, nmS, coS, vaS, vaA, vdS, vdA, mvS, frS, tsS, blO, ptS, muS, owB, gbS, gbD, flS, tkS, goneS, frz_fz, frz_ow, frz_oo, mine_no, mine_fz, mine_ow, mine_oo, owned_no, owned_fz, owned_ow, owned_oo, flag_no, flag_fz, flag_ow, flag_oo, give, back, argS, ownIx, wb, one, two, intS, blS, itemsD_lst, itemsD_tup, itemsD_scr, itemsD_str, enumD_lst, enumD_tup, numD_nil, numD_cons, truD_bl, truD_non, truD_int, truD_lst, truD_tup, attD, recOf, putFD, ap_gNilD, ap_gTupD, ap_gConsD, List.getElem?_cons_zero, List.getElem?_cons_succ, List.getElem?_nil, List.set_cons_zero, List.set_cons_succ, List.map_cons, List.map_nil, List.length_cons, List.length_nil, List.cons_append, List.nil_append, List.append_nil, List.replicate, List.getD_cons_zero, List.getD_cons_succ, List.getD_nil, List.nodup_nil, ite_true, ite_false, Bool.not_true, Bool.not_false, Bool.false_eq_true, reduceCtorEq, Nat.reduceSub, Nat.reduceAdd, List.nodup_cons, List.not_mem_nil, not_false_eq_true, and_self, and_true, true_and, decide_true, decide_false, List.take_succ_cons, List.take_zero, sizeLine_eq, Nat.zero_le, Nat.reduceLeDiff, Nat.reduceLT, Nat.reduceEqDiff, cp_bind, cp_pure, cp_bindS, cp_seqS, cp_nmO, cp_cO, cp_frzD, cp_frzO, cp_valO, cp_valD, cp_binX, cp_unX, cp_caX, cp_nilA, cp_consA, cp_nilD, cp_consD, cp_free_eq, cp_setS, cp_retS, cp_exprS, cp_ifS, cp_nxS, cp_retN, cp_mvX, cp_frD, cp_frO, cp_truO, cp_tstB, cp_andT, cp_orT, cp_notT, cp_notX, cp_andO, cp_orO, cp_ifE, cp_chX, cp_noO, cp_ptO, cp_slX, cp_tupX, cp_lstX, cp_dic0X, cp_itX, cp_enX, cp_rg1, cp_gN, cp_asgS, cp_forS, cp_loopS_cons, cp_callX, cp_appF, cp_mkX, cp_fldS, cp_attX, cp_raiseS1, cp_raiseS0, cp_tryS, cp_muX, cp_muN, cp_mtX, cp_hasOw_eq, cp_gSubD, cp_parS, cp_kwX, cp_yesT, cp_compX, cp_compL_cons, allD_bl, and_self, if_true]
      try rfl
  · rw [Bool.not_eq_true] at c
    rw [c] at e2
    simp only [↓e1, ↓e2, c, bR_ok, bR_exc, bR_bad, kR_ok, bS_ok, bS_exc, bS_bad, nS_nx, nS_rt, nS_exc, nS_bk, nS_ct, nS_bad, gS_nx, lS_nx, lS_ct, lS_bk, lS_rt, lS_exc, fS_rt, fS_nx, fS_exc, hS_nx, hS_rt, hS_exc, pR_ok, pR_exc, oR_some, oR_none, cR_true, cR_false, xS_ok, con_vl, con_sl, conS_nil, conS_cons, loopS_nil, compL_nil, handle_nil, handle_cons, ap_bodyF, takeR_ok, takeR_exc, nmS, coS, vaS, vaA, vdS, vdA, mvS, frS, tsS, blO, ptS, muS, owB, gbS, gbD, flS, tkS, goneS, frz_fz, frz_ow, frz_oo, mine_no, mine_fz, mine_ow, mine_oo, owned_no, owned_fz, owned_ow, owned_oo, flag_no, flag_fz, flag_ow, flag_oo, give, back, argS, ownIx, wb, one, two, intS, blS, itemsD_lst, itemsD_tup, itemsD_scr, itemsD_str, enumD_lst, enumD_tup, numD_nil, numD_cons, truD_bl, truD_non, truD_int, truD_lst, truD_tup, attD, recOf, putFD, ap_gNilD, ap_gTupD, ap_gConsD, List.getElem?_cons_zero, List.getElem?_cons_succ, List.getElem?_nil, List.set_cons_zero, List.set_cons_succ, List.map_cons, List.map_nil, List.length_cons, List.length_nil, List.cons_append, List.nil_append, List.append_nil, List.replicate, List.getD_cons_zero, List.getD_cons_succ, List.getD_nil, List.nodup_nil, ite_true, ite_false, Bool.not_true, Bool.not_false, Bool.false_eq_true, reduceCtorEq, Nat.reduceSub, Nat.reduceAdd, List.nodup_cons, List.not_mem_nil, not_false_eq_true, and_self, and_true, true_and, decide_true, decide_false, List.take_succ_cons, List.take_zero, sizeLine_eq, Nat.zero_le, Nat.reduceLeDiff, Nat.reduceLT, Nat.reduceEqDiff, cp_bind, cp_pure, cp_bindS, cp_seqS, cp_nmO, cp_cO, cp_frzD, cp_frzO, cp_valO, cp_valD, cp_binX, cp_unX, cp_caX, cp_nilA, cp_consA, cp_nilD, cp_consD, cp_free_eq, cp_setS, cp_retS, cp_exprS, cp_ifS, cp_nxS, cp_retN, cp_mvX, cp_frD, cp_frO, cp_truO, cp_tstB, cp_andT, cp_orT, cp_notT, cp_notX, cp_andO, cp_orO, cp_ifE, cp_chX, cp_noO, cp_ptO, cp_slX, cp_tupX, cp_lstX, cp_dic0X, cp_itX, cp_enX, cp_rg1, cp_gN, cp_asgS, cp_forS, cp_loopS_cons, cp_callX, cp_appF, cp_mkX, cp_fldS, cp_attX, cp_raiseS1, cp_raiseS0, cp_tryS, cp_muX, cp_muN, cp_mtX, cp_hasOw_eq, cp_gSubD, cp_parS, cp_kwX, cp_yesT, cp_compX, cp_compL_cons]
    try rfl
theorem lisn (z : Str) (hz : z.length ≤ 1000) : F59 [.fz (.str z)] = .ok [.fz (.str z)] (.fz (.bl (nameB z))) := by
  have e0 : ∃ ws : List D, (∀ ρ0, lstX (consD (valD (cO (.str "all"))) (consD (valD (cO (.str "and"))) (consD (valD (cO (.str "children"))) (consD (valD (cO (.str "childless"))) (consD (valD (cO (.str "crown"))) (consD (valD (cO (.str "else"))) (consD (valD (cO (.str "if"))) (consD (valD (cO (.str "lives"))) (consD (valD (cO (.str "not"))) (consD (valD (cO (.str "of"))) (consD (valD (cO (.str "or"))) (consD (valD (cO (.str "stock"))) (consD (valD (cO (.str "to"))) nilD))))))))))))) ρ0 = .ok ρ0 (.ow false ws)) ∧ flatsD ws = some wordsV := ⟨_, fun _ => rfl, by kernel_rfl⟩
  obtain ⟨ws, e0, ew⟩ := e0
  have e1 : caX isiF (consA (nmO 0) (consA (cO (.ty "str")) nilA)) [.fz (.str z), .ow false ws, .no] = .ok [.fz (.str z), .ow false ws, .no] (.fz (.bl true)) := by kernel_rfl
  have e2 := chLen (ρ := [.fz (.str z), .ow false ws, .no]) 0 hz rfl
  have e3 : binX (inD false) (nmO 0) (nmO 1) [.fz (.str z), .ow false ws, .no] = .ok [.fz (.str z), .ow false ws, .no] (.fz (.bl (inV (.str z) wordsV))) := by
    simp only [bR_ok, bR_exc, bR_bad, kR_ok, bS_ok, bS_exc, bS_bad, nS_nx, nS_rt, nS_exc, nS_bk, nS_ct, nS_bad, gS_nx, lS_nx, lS_ct, lS_bk, lS_rt, lS_exc, fS_rt, fS_nx, fS_exc, hS_nx, hS_rt, hS_exc, pR_ok, pR_exc, oR_some, oR_none, cR_true, cR_false, xS_ok, con_vl, con_sl, conS_nil, conS_cons, loopS_nil, compL_nil, handle_nil, handle_cons, ap_bodyF, takeR_ok, takeR_exc, nmS, coS, vaS, vaA, vdS, vdA, mvS, frS, tsS, blO, ptS, muS, owB, gbS, gbD, flS, tkS, goneS, frz_fz, frz_ow, frz_oo, mine_no, mine_fz, mine_ow, mine_oo, owned_no, owned_fz, owned_ow, owned_oo, flag_no, flag_fz, flag_ow, flag_oo, give, back, argS, ownIx, wb, one, two, intS, blS, itemsD_lst, itemsD_tup, itemsD_scr, itemsD_str, enumD_lst, enumD_tup, numD_nil, numD_cons, truD_bl, truD_non, truD_int, truD_lst, truD_tup, attD, recOf, putFD, ap_gNilD, ap_gTupD, ap_gConsD, List.getElem?_cons_zero, List.getElem?_cons_succ, List.getElem?_nil, List.set_cons_zero, List.set_cons_succ, List.map_cons, List.map_nil, List.length_cons, List.length_nil, List.cons_append, List.nil_append, List.append_nil, List.replicate, List.getD_cons_zero, List.getD_cons_succ, List.getD_nil, List.nodup_nil, ite_true, ite_false, Bool.not_true, Bool.not_false, Bool.false_eq_true, reduceCtorEq, Nat.reduceSub, Nat.reduceAdd, List.nodup_cons, List.not_mem_nil, not_false_eq_true, and_self, and_true, true_and, decide_true, decide_false, List.take_succ_cons, List.take_zero, sizeLine_eq, Nat.zero_le, Nat.reduceLeDiff, Nat.reduceLT, Nat.reduceEqDiff, cp_bind, cp_pure, cp_bindS, cp_seqS, cp_nmO, cp_cO, cp_frzD, cp_frzO, cp_valO, cp_valD, cp_binX, cp_unX, cp_caX, cp_nilA, cp_consA, cp_nilD, cp_consD, cp_free_eq, cp_setS, cp_retS, cp_exprS, cp_ifS, cp_nxS, cp_retN, cp_mvX, cp_frD, cp_frO, cp_truO, cp_tstB, cp_andT, cp_orT, cp_notT, cp_notX, cp_andO, cp_orO, cp_ifE, cp_chX, cp_noO, cp_ptO, cp_slX, cp_tupX, cp_lstX, cp_dic0X, cp_itX, cp_enX, cp_rg1, cp_gN, cp_asgS, cp_forS, cp_loopS_cons, cp_callX, cp_appF, cp_mkX, cp_fldS, cp_attX, cp_raiseS1, cp_raiseS0, cp_tryS, cp_muX, cp_muN, cp_mtX, cp_hasOw_eq, cp_gSubD, cp_parS, cp_kwX, cp_yesT, cp_compX, cp_compL_cons]
    show oR (inSeq false (.str z) ws) _ _ = _
    unfold inSeq
    rw [ew]
    rfl
  have e4 := comp_abc (ρ := [.fz (.str z), .ow false ws, .no]) 0 2 hz rfl (fun _ => rfl) rfl (fun _ => rfl) (fun _ => rfl)
  unfold F59 g59 nameB
  by_cases c : (decide ((1 : Int) ≤ z.length) && decide ((z.length : Int) ≤ 8)) = true
  · rw [c] at e2
    cases q : inV (.str z) wordsV with
    | true =>
      rw [q] at e3
      simp only [↓e0, ↓e1, ↓e2, ↓e3, c, bR_ok, bR_exc, bR_bad, kR_ok, bS_ok, bS_exc, bS_bad, nS_nx, nS_rt, nS_exc, nS_bk, nS_ct, nS_bad, gS_nx, lS_nx, lS_ct, lS_bk, lS_rt, lS_exc, fS_rt, fS_nx, fS_exc, hS_nx, hS_rt, hS_exc, pR_ok, pR_exc, oR_some, oR_none, cR_true, cR_false, xS_ok, con_vl, con_sl, conS_nil, conS_cons, loopS_nil, compL_nil, handle_nil, handle_cons, ap_bodyF, takeR_ok, takeR_exc, nmS, coS, vaS, vaA, vdS, vdA, mvS, frS, tsS, blO, ptS, muS, owB, gbS, gbD, flS, tkS, goneS, frz_fz, frz_ow, frz_oo, mine_no, mine_fz, mine_ow, mine_oo, owned_no, owned_fz, owned_ow, owned_oo, flag_no, flag_fz, flag_ow, flag_oo, give, back, argS, ownIx, wb, one, two, intS, blS, itemsD_lst, itemsD_tup, itemsD_scr, itemsD_str, enumD_lst, enumD_tup, numD_nil, numD_cons, truD_bl, truD_non, truD_int, truD_lst, truD_tup, attD, recOf, putFD, ap_gNilD, ap_gTupD, ap_gConsD, List.getElem?_cons_zero, List.getElem?_cons_succ, List.getElem?_nil, List.set_cons_zero, List.set_cons_succ, List.map_cons, List.map_nil, List.length_cons, List.length_nil, List.cons_append, List.nil_append, List.append_nil, List.replicate, List.getD_cons_zero, List.getD_cons_succ, List.getD_nil, List.nodup_nil, ite_true, ite_false, Bool.not_true, Bool.not_false, Bool.false_eq_true, reduceCtorEq, Nat.reduceSub, Nat.reduceAdd, List.nodup_cons, List.not_mem_nil, not_false_eq_true, and_self, and_true, true_and, decide_true, decide_false, List.take_succ_cons, List.take_zero, sizeLine_eq, Nat.zero_le, Nat.reduceLeDiff, Nat.reduceLT, Nat.reduceEqDiff, cp_bind, cp_pure, cp_bindS, cp_seqS, cp_nmO, cp_cO, cp_frzD, cp_frzO, cp_valO, cp_valD, cp_binX, cp_unX, cp_caX, cp_nilA, cp_consA, cp_nilD, cp_consD, cp_free_eq, cp_setS, cp_retS, cp_exprS, cp_ifS, cp_nxS, cp_retN, cp_mvX, cp_frD, cp_frO, cp_truO, cp_tstB, cp_andT, cp_orT, cp_notT, cp_notX, cp_andO, cp_orO, cp_ifE, cp_chX, cp_noO, cp_ptO, cp_slX, cp_tupX, cp_lstX, cp_dic0X, cp_itX, cp_enX, cp_rg1, cp_gN, cp_asgS, cp_forS, cp_loopS_cons, cp_callX, cp_appF, cp_mkX, cp_fldS, cp_attX, cp_raiseS1, cp_raiseS0, cp_tryS, cp_muX, cp_muN, cp_mtX, cp_hasOw_eq, cp_gSubD, cp_parS, cp_kwX, cp_yesT, cp_compX, cp_compL_cons]
      try rfl
    | false =>
      rw [q] at e3
      simp only [↓e0, ↓e1, ↓e2, ↓e3, ↓e4, c, bR_ok, bR_exc, bR_bad, kR_ok, bS_ok, bS_exc, bS_bad, nS_nx, nS_rt, nS_exc, nS_bk, nS_ct, nS_bad, gS_nx, lS_nx, lS_ct, lS_bk, lS_rt, lS_exc, fS_rt, fS_nx, fS_exc, hS_nx, hS_rt, hS_exc, pR_ok, pR_exc, oR_some, oR_none, cR_true, cR_false, xS_ok, con_vl, con_sl, conS_nil, conS_cons, loopS_nil, compL_nil, handle_nil, handle_cons, ap_bodyF, takeR_ok, takeR_exc, nmS, coS, vaS, vaA, vdS, vdA, mvS, frS, tsS, blO, ptS, muS, owB, gbS, gbD, flS, tkS, goneS, frz_fz, frz_ow, frz_oo, mine_no, mine_fz, mine_ow, mine_oo, owned_no, owned_fz, owned_ow, owned_oo, flag_no, flag_fz, flag_ow, flag_oo, give, back, argS, ownIx, wb, one, two, intS, blS, itemsD_lst, itemsD_tup, itemsD_scr, itemsD_str, enumD_lst, enumD_tup, numD_nil, numD_cons, truD_bl, truD_non, truD_int, truD_lst, truD_tup, attD, recOf, putFD, ap_gNilD, ap_gTupD, ap_gConsD, List.getElem?_cons_zero, List.getElem?_cons_succ, List.getElem?_nil, List.set_cons_zero, List.set_cons_succ, List.map_cons, List.map_nil, List.length_cons, List.length_nil, List.cons_append, List.nil_append, List.append_nil, List.replicate, List.getD_cons_zero, List.getD_cons_succ, List.getD_nil, List.nodup_nil, ite_true, ite_false, Bool.not_true, Bool.not_false, Bool.false_eq_true, reduceCtorEq, Nat.reduceSub, Nat.reduceAdd, List.nodup_cons, List.not_mem_nil, not_false_eq_true, and_self, and_true, true_and, decide_true, decide_false, List.take_succ_cons, List.take_zero, sizeLine_eq, Nat.zero_le, Nat.reduceLeDiff, Nat.reduceLT, Nat.reduceEqDiff, cp_bind, cp_pure, cp_bindS, cp_seqS, cp_nmO, cp_cO, cp_frzD, cp_frzO, cp_valO, cp_valD, cp_binX, cp_unX, cp_caX, cp_nilA, cp_consA, cp_nilD, cp_consD, cp_free_eq, cp_setS, cp_retS, cp_exprS, cp_ifS, cp_nxS, cp_retN, cp_mvX, cp_frD, cp_frO, cp_truO, cp_tstB, cp_andT, cp_orT, cp_notT, cp_notX, cp_andO, cp_orO, cp_ifE, cp_chX, cp_noO, cp_ptO, cp_slX, cp_tupX, cp_lstX, cp_dic0X, cp_itX, cp_enX, cp_rg1, cp_gN, cp_asgS, cp_forS, cp_loopS_cons, cp_callX, cp_appF, cp_mkX, cp_fldS, cp_attX, cp_raiseS1, cp_raiseS0, cp_tryS, cp_muX, cp_muN, cp_mtX, cp_hasOw_eq, cp_gSubD, cp_parS, cp_kwX, cp_yesT, cp_compX, cp_compL_cons, allD_bl, and_self, if_true]
      try rfl
  · rw [Bool.not_eq_true] at c
    rw [c] at e2
    simp only [↓e0, ↓e1, ↓e2, c, bR_ok, bR_exc, bR_bad, kR_ok, bS_ok, bS_exc, bS_bad, nS_nx, nS_rt, nS_exc, nS_bk, nS_ct, nS_bad, gS_nx, lS_nx, lS_ct, lS_bk, lS_rt, lS_exc, fS_rt, fS_nx, fS_exc, hS_nx, hS_rt, hS_exc, pR_ok, pR_exc, oR_some, oR_none, cR_true, cR_false, xS_ok, con_vl, con_sl, conS_nil, conS_cons, loopS_nil, compL_nil, handle_nil, handle_cons, ap_bodyF, takeR_ok, takeR_exc, nmS, coS, vaS, vaA, vdS, vdA, mvS, frS, tsS, blO, ptS, muS, owB, gbS, gbD, flS, tkS, goneS, frz_fz, frz_ow, frz_oo, mine_no, mine_fz, mine_ow, mine_oo, owned_no, owned_fz, owned_ow, owned_oo, flag_no, flag_fz, flag_ow, flag_oo, give, back, argS, ownIx, wb, one, two, intS, blS, itemsD_lst, itemsD_tup, itemsD_scr, itemsD_str, enumD_lst, enumD_tup, numD_nil, numD_cons, truD_bl, truD_non, truD_int, truD_lst, truD_tup, attD, recOf, putFD, ap_gNilD, ap_gTupD, ap_gConsD, List.getElem?_cons_zero, List.getElem?_cons_succ, List.getElem?_nil, List.set_cons_zero, List.set_cons_succ, List.map_cons, List.map_nil, List.length_cons, List.length_nil, List.cons_append, List.nil_append, List.append_nil, List.replicate, List.getD_cons_zero, List.getD_cons_succ, List.getD_nil, List.nodup_nil, ite_true, ite_false, Bool.not_true, Bool.not_false, Bool.false_eq_true, reduceCtorEq, Nat.reduceSub, Nat.reduceAdd, List.nodup_cons, List.not_mem_nil, not_false_eq_true, and_self, and_true, true_and, decide_true, decide_false, List.take_succ_cons, List.take_zero, sizeLine_eq, Nat.zero_le, Nat.reduceLeDiff, Nat.reduceLT, Nat.reduceEqDiff, cp_bind, cp_pure, cp_bindS, cp_seqS, cp_nmO, cp_cO, cp_frzD, cp_frzO, cp_valO, cp_valD, cp_binX, cp_unX, cp_caX, cp_nilA, cp_consA, cp_nilD, cp_consD, cp_free_eq, cp_setS, cp_retS, cp_exprS, cp_ifS, cp_nxS, cp_retN, cp_mvX, cp_frD, cp_frO, cp_truO, cp_tstB, cp_andT, cp_orT, cp_notT, cp_notX, cp_andO, cp_orO, cp_ifE, cp_chX, cp_noO, cp_ptO, cp_slX, cp_tupX, cp_lstX, cp_dic0X, cp_itX, cp_enX, cp_rg1, cp_gN, cp_asgS, cp_forS, cp_loopS_cons, cp_callX, cp_appF, cp_mkX, cp_fldS, cp_attX, cp_raiseS1, cp_raiseS0, cp_tryS, cp_muX, cp_muN, cp_mtX, cp_hasOw_eq, cp_gSubD, cp_parS, cp_kwX, cp_yesT, cp_compX, cp_compL_cons]
    try rfl
/-- both tell b of d -/
def Told (d : D) (b : Bool) : Prop := F18 [.fz d] = .ok [.fz d] (.fz (.bl b)) ∧ F59 [.fz d] = .ok [.fz d] (.fz (.bl b))
theorem told_str (z : Str) (hz : z.length ≤ 1000) : Told (.str z) (nameB z) := ⟨isn z hz, lisn z hz⟩
/-! ### refusals -/
theorem parted_neg (d : D) : F61 [.fz (.int 0), .fz d] = .ok [.fz (.int 0), .fz d] (.fz (.tup [.str "sum", .int (-1)])) := by kernel_rfl
theorem day3 : F22 [.fz (.int 3)] = .ok [.fz (.int 3)] (.fz (.bl true)) := by kernel_rfl
theorem death {d : D} (h : F18 [.fz d] = .ok [.fz d] (.fz (.bl false))) : F47 [.fz (.tup [d, .int 3])] = .ok [.fz (.tup [d, .int 3])] (.fz (.bl false)) := by
  have e1 : caX isiF (consA (nmO 0) (consA (cO (.ty "tuple")) nilA)) [.fz (.tup [d, .int 3])] = .ok [.fz (.tup [d, .int 3])] (.fz (.bl true)) := by kernel_rfl
  have e2 : binX (eqD false) (frzO (caX (one lenD) (consA (nmO 0) nilA))) (cO (.int 2)) [.fz (.tup [d, .int 3])] = .ok [.fz (.tup [d, .int 3])] (.fz (.bl true)) := by kernel_rfl
  have e3 : binX ixD (nmO 0) (cO (.int 0)) [.fz (.tup [d, .int 3])] = .ok [.fz (.tup [d, .int 3])] (.fz d) := by kernel_rfl
  unfold F47 g47
  simp only [↓e1, ↓e2, ↓e3, h, bR_ok, bR_exc, bR_bad, kR_ok, bS_ok, bS_exc, bS_bad, nS_nx, nS_rt, nS_exc, nS_bk, nS_ct, nS_bad, gS_nx, lS_nx, lS_ct, lS_bk, lS_rt, lS_exc, fS_rt, fS_nx, fS_exc, hS_nx, hS_rt, hS_exc, pR_ok, pR_exc, oR_some, oR_none, cR_true, cR_false, xS_ok, con_vl, con_sl, conS_nil, conS_cons, loopS_nil, compL_nil, handle_nil, handle_cons, ap_bodyF, takeR_ok, takeR_exc, nmS, coS, vaS, vaA, vdS, vdA, mvS, frS, tsS, blO, ptS, muS, owB, gbS, gbD, flS, tkS, goneS, frz_fz, frz_ow, frz_oo, mine_no, mine_fz, mine_ow, mine_oo, owned_no, owned_fz, owned_ow, owned_oo, flag_no, flag_fz, flag_ow, flag_oo, give, back, argS, ownIx, wb, one, two, intS, blS, itemsD_lst, itemsD_tup, itemsD_scr, itemsD_str, enumD_lst, enumD_tup, numD_nil, numD_cons, truD_bl, truD_non, truD_int, truD_lst, truD_tup, attD, recOf, putFD, ap_gNilD, ap_gTupD, ap_gConsD, List.getElem?_cons_zero, List.getElem?_cons_succ, List.getElem?_nil, List.set_cons_zero, List.set_cons_succ, List.map_cons, List.map_nil, List.length_cons, List.length_nil, List.cons_append, List.nil_append, List.append_nil, List.replicate, List.getD_cons_zero, List.getD_cons_succ, List.getD_nil, List.nodup_nil, ite_true, ite_false, Bool.not_true, Bool.not_false, Bool.false_eq_true, reduceCtorEq, Nat.reduceSub, Nat.reduceAdd, List.nodup_cons, List.not_mem_nil, not_false_eq_true, and_self, and_true, true_and, decide_true, decide_false, List.take_succ_cons, List.take_zero, sizeLine_eq, Nat.zero_le, Nat.reduceLeDiff, Nat.reduceLT, Nat.reduceEqDiff, cp_bind, cp_pure, cp_bindS, cp_seqS, cp_nmO, cp_cO, cp_frzD, cp_frzO, cp_valO, cp_valD, cp_binX, cp_unX, cp_caX, cp_nilA, cp_consA, cp_nilD, cp_consD, cp_free_eq, cp_setS, cp_retS, cp_exprS, cp_ifS, cp_nxS, cp_retN, cp_mvX, cp_frD, cp_frO, cp_truO, cp_tstB, cp_andT, cp_orT, cp_notT, cp_notX, cp_andO, cp_orO, cp_ifE, cp_chX, cp_noO, cp_ptO, cp_slX, cp_tupX, cp_lstX, cp_dic0X, cp_itX, cp_enX, cp_rg1, cp_gN, cp_asgS, cp_forS, cp_loopS_cons, cp_callX, cp_appF, cp_mkX, cp_fldS, cp_attX, cp_raiseS1, cp_raiseS0, cp_tryS, cp_muX, cp_muN, cp_mtX, cp_hasOw_eq, cp_gSubD, cp_parS, cp_kwX, cp_yesT, cp_compX, cp_compL_cons]
theorem cdeaths {d : D} (h : F18 [.fz d] = .ok [.fz d] (.fz (.bl false))) : F48 [.fz (.tup [.tup [d, .int 3]])] = .exc [.fz (.tup [.tup [d, .int 3]])] 9 [("number", .int 0)] := by
  have e1 : (orT (notT (truO (frzO (caX isiF (consA (nmO 0) (consA (cO (.ty "tuple")) nilA)))))) (tstB (binX gtD (frzO (caX (one lenD) (consA (nmO 0) nilA))) (cO (.int 8))))) [.fz (.tup [.tup [d, .int 3]]), .no, .no] = .ok [.fz (.tup [.tup [d, .int 3]]), .no, .no] false := by kernel_rfl
  have e2 := death h
  unfold F48 g48
  simp only [↓e1, e2, bR_ok, bR_exc, bR_bad, kR_ok, bS_ok, bS_exc, bS_bad, nS_nx, nS_rt, nS_exc, nS_bk, nS_ct, nS_bad, gS_nx, lS_nx, lS_ct, lS_bk, lS_rt, lS_exc, fS_rt, fS_nx, fS_exc, hS_nx, hS_rt, hS_exc, pR_ok, pR_exc, oR_some, oR_none, cR_true, cR_false, xS_ok, con_vl, con_sl, conS_nil, conS_cons, loopS_nil, compL_nil, handle_nil, handle_cons, ap_bodyF, takeR_ok, takeR_exc, nmS, coS, vaS, vaA, vdS, vdA, mvS, frS, tsS, blO, ptS, muS, owB, gbS, gbD, flS, tkS, goneS, frz_fz, frz_ow, frz_oo, mine_no, mine_fz, mine_ow, mine_oo, owned_no, owned_fz, owned_ow, owned_oo, flag_no, flag_fz, flag_ow, flag_oo, give, back, argS, ownIx, wb, one, two, intS, blS, itemsD_lst, itemsD_tup, itemsD_scr, itemsD_str, enumD_lst, enumD_tup, numD_nil, numD_cons, truD_bl, truD_non, truD_int, truD_lst, truD_tup, attD, recOf, putFD, ap_gNilD, ap_gTupD, ap_gConsD, List.getElem?_cons_zero, List.getElem?_cons_succ, List.getElem?_nil, List.set_cons_zero, List.set_cons_succ, List.map_cons, List.map_nil, List.length_cons, List.length_nil, List.cons_append, List.nil_append, List.append_nil, List.replicate, List.getD_cons_zero, List.getD_cons_succ, List.getD_nil, List.nodup_nil, ite_true, ite_false, Bool.not_true, Bool.not_false, Bool.false_eq_true, reduceCtorEq, Nat.reduceSub, Nat.reduceAdd, List.nodup_cons, List.not_mem_nil, not_false_eq_true, and_self, and_true, true_and, decide_true, decide_false, List.take_succ_cons, List.take_zero, sizeLine_eq, Nat.zero_le, Nat.reduceLeDiff, Nat.reduceLT, Nat.reduceEqDiff, cp_bind, cp_pure, cp_bindS, cp_seqS, cp_nmO, cp_cO, cp_frzD, cp_frzO, cp_valO, cp_valD, cp_binX, cp_unX, cp_caX, cp_nilA, cp_consA, cp_nilD, cp_consD, cp_free_eq, cp_setS, cp_retS, cp_exprS, cp_ifS, cp_nxS, cp_retN, cp_mvX, cp_frD, cp_frO, cp_truO, cp_tstB, cp_andT, cp_orT, cp_notT, cp_notX, cp_andO, cp_orO, cp_ifE, cp_chX, cp_noO, cp_ptO, cp_slX, cp_tupX, cp_lstX, cp_dic0X, cp_itX, cp_enX, cp_rg1, cp_gN, cp_asgS, cp_forS, cp_loopS_cons, cp_callX, cp_appF, cp_mkX, cp_fldS, cp_attX, cp_raiseS1, cp_raiseS0, cp_tryS, cp_muX, cp_muN, cp_mtX, cp_hasOw_eq, cp_gSubD, cp_parS, cp_kwX, cp_yesT, cp_compX, cp_compL_cons]
  try rfl
theorem story {d : D} (h : F18 [.fz d] = .ok [.fz d] (.fz (.bl false))) : F49 [.oo false 25 [], .fz (.tup [.tup [d, .int 3]])] = .exc [.oo false 25 [], .fz (.tup [.tup [d, .int 3]])] 9 [("number", .int 0)] := by
  have e2 := cdeaths h
  have e1 : (tstB (binX (isN false) (nmO 1) (cO .non))) [.oo true 25 [], .fz (.tup [.tup [d, .int 3]])] = .ok [.oo true 25 [], .fz (.tup [.tup [d, .int 3]])] false := by kernel_rfl
  unfold F49 g49
  simp only [↓e1, e2, bR_ok, bR_exc, bR_bad, kR_ok, bS_ok, bS_exc, bS_bad, nS_nx, nS_rt, nS_exc, nS_bk, nS_ct, nS_bad, gS_nx, lS_nx, lS_ct, lS_bk, lS_rt, lS_exc, fS_rt, fS_nx, fS_exc, hS_nx, hS_rt, hS_exc, pR_ok, pR_exc, oR_some, oR_none, cR_true, cR_false, xS_ok, con_vl, con_sl, conS_nil, conS_cons, loopS_nil, compL_nil, handle_nil, handle_cons, ap_bodyF, takeR_ok, takeR_exc, nmS, coS, vaS, vaA, vdS, vdA, mvS, frS, tsS, blO, ptS, muS, owB, gbS, gbD, flS, tkS, goneS, frz_fz, frz_ow, frz_oo, mine_no, mine_fz, mine_ow, mine_oo, owned_no, owned_fz, owned_ow, owned_oo, flag_no, flag_fz, flag_ow, flag_oo, give, back, argS, ownIx, wb, one, two, intS, blS, itemsD_lst, itemsD_tup, itemsD_scr, itemsD_str, enumD_lst, enumD_tup, numD_nil, numD_cons, truD_bl, truD_non, truD_int, truD_lst, truD_tup, attD, recOf, putFD, ap_gNilD, ap_gTupD, ap_gConsD, List.getElem?_cons_zero, List.getElem?_cons_succ, List.getElem?_nil, List.set_cons_zero, List.set_cons_succ, List.map_cons, List.map_nil, List.length_cons, List.length_nil, List.cons_append, List.nil_append, List.append_nil, List.replicate, List.getD_cons_zero, List.getD_cons_succ, List.getD_nil, List.nodup_nil, ite_true, ite_false, Bool.not_true, Bool.not_false, Bool.false_eq_true, reduceCtorEq, Nat.reduceSub, Nat.reduceAdd, List.nodup_cons, List.not_mem_nil, not_false_eq_true, and_self, and_true, true_and, decide_true, decide_false, List.take_succ_cons, List.take_zero, sizeLine_eq, Nat.zero_le, Nat.reduceLeDiff, Nat.reduceLT, Nat.reduceEqDiff, cp_bind, cp_pure, cp_bindS, cp_seqS, cp_nmO, cp_cO, cp_frzD, cp_frzO, cp_valO, cp_valD, cp_binX, cp_unX, cp_caX, cp_nilA, cp_consA, cp_nilD, cp_consD, cp_free_eq, cp_setS, cp_retS, cp_exprS, cp_ifS, cp_nxS, cp_retN, cp_mvX, cp_frD, cp_frO, cp_truO, cp_tstB, cp_andT, cp_orT, cp_notT, cp_notX, cp_andO, cp_orO, cp_ifE, cp_chX, cp_noO, cp_ptO, cp_slX, cp_tupX, cp_lstX, cp_dic0X, cp_itX, cp_enX, cp_rg1, cp_gN, cp_asgS, cp_forS, cp_loopS_cons, cp_callX, cp_appF, cp_mkX, cp_fldS, cp_attX, cp_raiseS1, cp_raiseS0, cp_tryS, cp_muX, cp_muN, cp_mtX, cp_hasOw_eq, cp_gSubD, cp_parS, cp_kwX, cp_yesT, cp_compX, cp_compL_cons]
theorem sort9 : F58 [.fz (.exc 9 [("number", .int 0)])] = .ok [.fz (.exc 9 [("number", .int 0)])] (.fz (.str "story")) := by kernel_rfl
theorem sort6 : F58 [.fz (.exc 6 [("number", .int 0)])] = .ok [.fz (.exc 6 [("number", .int 0)])] (.fz (.str "people")) := by kernel_rfl
theorem ref1 {d : D} (h : F18 [.fz d] = .ok [.fz d] (.fz (.bl false))) : F61 [.fz (.int 1), .fz d] = .ok [.fz (.int 1), .fz d] (.fz (.tup [.str "story", .int 0])) := by
  have e2 := story h
  have t0 : ∀ s2, (tstB (binX (eqD false) (nmO 0) (cO (.int 0)))) [.fz (.int 1), .fz d, s2, .no, .no] = .ok [.fz (.int 1), .fz d, s2, .no, .no] false := fun _ => by kernel_rfl
  have t1 : ∀ s2, (tstB (binX (eqD false) (nmO 0) (cO (.int 1)))) [.fz (.int 1), .fz d, s2, .no, .no] = .ok [.fz (.int 1), .fz d, s2, .no, .no] true := fun _ => by kernel_rfl
  have c10 : catF 10 9 = some true := by kernel_rfl
  have t2 : (tstB (binX (eqD false) (nmO 3) (cO (.str "sum")))) [.fz (.int 1), .fz d, .fz (.exc 9 [("number", .int 0)]), .fz (.str "story"), .no] = .ok [.fz (.int 1), .fz d, .fz (.exc 9 [("number", .int 0)]), .fz (.str "story"), .no] false := by kernel_rfl
  have t3 : (tstB (binX (inD false) (nmO 3) (frzO (lstX (consD (valD (cO (.str "story"))) (consD (valD (cO (.str "people"))) nilD)))))) [.fz (.int 1), .fz d, .fz (.exc 9 [("number", .int 0)]), .fz (.str "story"), .no] = .ok [.fz (.int 1), .fz d, .fz (.exc 9 [("number", .int 0)]), .fz (.str "story"), .no] true := by kernel_rfl
  have t4 : (tupX (consD (frD 3) (consD (valD (attX [(6, true), (7, true), (9, true), (13, true)] "number" (nmO 2))) nilD))) [.fz (.int 1), .fz d, .fz (.exc 9 [("number", .int 0)]), .fz (.str "story"), .no] = .ok [.fz (.int 1), .fz d, .fz (.exc 9 [("number", .int 0)]), .fz (.str "story"), .no] (.fz (.tup [.str "story", .int 0])) := by kernel_rfl
  have t5 : (frzO (tupX (consD (frzD (tupX (consD (frD 1) (consD (valD (cO (.int 3))) nilD)))) nilD))) [.fz (.int 1), .fz d, .fz .non, .no, .no] = .ok [.fz (.int 1), .fz d, .fz .non, .no, .no] (.vl (.tup [.tup [d, .int 3]])) := by kernel_rfl
  unfold F61 g61
  simp only [↓t0, ↓t1, ↓t2, ↓t3, ↓t4, ↓t5, e2, c10, sort9, bR_ok, bR_exc, bR_bad, kR_ok, bS_ok, bS_exc, bS_bad, nS_nx, nS_rt, nS_exc, nS_bk, nS_ct, nS_bad, gS_nx, lS_nx, lS_ct, lS_bk, lS_rt, lS_exc, fS_rt, fS_nx, fS_exc, hS_nx, hS_rt, hS_exc, pR_ok, pR_exc, oR_some, oR_none, cR_true, cR_false, xS_ok, con_vl, con_sl, conS_nil, conS_cons, loopS_nil, compL_nil, handle_nil, handle_cons, ap_bodyF, takeR_ok, takeR_exc, nmS, coS, vaS, vaA, vdS, vdA, mvS, frS, tsS, blO, ptS, muS, owB, gbS, gbD, flS, tkS, goneS, frz_fz, frz_ow, frz_oo, mine_no, mine_fz, mine_ow, mine_oo, owned_no, owned_fz, owned_ow, owned_oo, flag_no, flag_fz, flag_ow, flag_oo, give, back, argS, ownIx, wb, one, two, intS, blS, itemsD_lst, itemsD_tup, itemsD_scr, itemsD_str, enumD_lst, enumD_tup, numD_nil, numD_cons, truD_bl, truD_non, truD_int, truD_lst, truD_tup, attD, recOf, putFD, ap_gNilD, ap_gTupD, ap_gConsD, List.getElem?_cons_zero, List.getElem?_cons_succ, List.getElem?_nil, List.set_cons_zero, List.set_cons_succ, List.map_cons, List.map_nil, List.length_cons, List.length_nil, List.cons_append, List.nil_append, List.append_nil, List.replicate, List.getD_cons_zero, List.getD_cons_succ, List.getD_nil, List.nodup_nil, ite_true, ite_false, Bool.not_true, Bool.not_false, Bool.false_eq_true, reduceCtorEq, Nat.reduceSub, Nat.reduceAdd, List.nodup_cons, List.not_mem_nil, not_false_eq_true, and_self, and_true, true_and, decide_true, decide_false, List.take_succ_cons, List.take_zero, sizeLine_eq, Nat.zero_le, Nat.reduceLeDiff, Nat.reduceLT, Nat.reduceEqDiff, cp_bind, cp_pure, cp_bindS, cp_seqS, cp_nmO, cp_cO, cp_frzD, cp_frzO, cp_valO, cp_valD, cp_binX, cp_unX, cp_caX, cp_nilA, cp_consA, cp_nilD, cp_consD, cp_free_eq, cp_setS, cp_retS, cp_exprS, cp_ifS, cp_nxS, cp_retN, cp_mvX, cp_frD, cp_frO, cp_truO, cp_tstB, cp_andT, cp_orT, cp_notT, cp_notX, cp_andO, cp_orO, cp_ifE, cp_chX, cp_noO, cp_ptO, cp_slX, cp_tupX, cp_lstX, cp_dic0X, cp_itX, cp_enX, cp_rg1, cp_gN, cp_asgS, cp_forS, cp_loopS_cons, cp_callX, cp_appF, cp_mkX, cp_fldS, cp_attX, cp_raiseS1, cp_raiseS0, cp_tryS, cp_muX, cp_muN, cp_mtX, cp_hasOw_eq, cp_gSubD, cp_parS, cp_kwX, cp_yesT, cp_compX, cp_compL_cons]
  try rfl
theorem person {d : D} (h : F18 [.fz d] = .ok [.fz d] (.fz (.bl false))) : F24 [.fz (.tup [d, .non]), .ow false []] = .ok [.fz (.tup [d, .non]), .ow false []] (.fz (.bl false)) := by
  have e1 : caX isiF (consA (nmO 0) (consA (cO (.ty "tuple")) nilA)) [.fz (.tup [d, .non]), .ow true []] = .ok [.fz (.tup [d, .non]), .ow true []] (.fz (.bl true)) := by kernel_rfl
  have e2 : binX (eqD true) (frzO (caX (one lenD) (consA (nmO 0) nilA))) (cO (.int 2)) [.fz (.tup [d, .non]), .ow true []] = .ok [.fz (.tup [d, .non]), .ow true []] (.fz (.bl false)) := by kernel_rfl
  have e3 : binX ixD (nmO 0) (cO (.int 0)) [.fz (.tup [d, .non]), .ow true []] = .ok [.fz (.tup [d, .non]), .ow true []] (.fz d) := by kernel_rfl
  unfold F24 g24
  simp only [↓e1, ↓e2, ↓e3, h, bR_ok, bR_exc, bR_bad, kR_ok, bS_ok, bS_exc, bS_bad, nS_nx, nS_rt, nS_exc, nS_bk, nS_ct, nS_bad, gS_nx, lS_nx, lS_ct, lS_bk, lS_rt, lS_exc, fS_rt, fS_nx, fS_exc, hS_nx, hS_rt, hS_exc, pR_ok, pR_exc, oR_some, oR_none, cR_true, cR_false, xS_ok, con_vl, con_sl, conS_nil, conS_cons, loopS_nil, compL_nil, handle_nil, handle_cons, ap_bodyF, takeR_ok, takeR_exc, nmS, coS, vaS, vaA, vdS, vdA, mvS, frS, tsS, blO, ptS, muS, owB, gbS, gbD, flS, tkS, goneS, frz_fz, frz_ow, frz_oo, mine_no, mine_fz, mine_ow, mine_oo, owned_no, owned_fz, owned_ow, owned_oo, flag_no, flag_fz, flag_ow, flag_oo, give, back, argS, ownIx, wb, one, two, intS, blS, itemsD_lst, itemsD_tup, itemsD_scr, itemsD_str, enumD_lst, enumD_tup, numD_nil, numD_cons, truD_bl, truD_non, truD_int, truD_lst, truD_tup, attD, recOf, putFD, ap_gNilD, ap_gTupD, ap_gConsD, List.getElem?_cons_zero, List.getElem?_cons_succ, List.getElem?_nil, List.set_cons_zero, List.set_cons_succ, List.map_cons, List.map_nil, List.length_cons, List.length_nil, List.cons_append, List.nil_append, List.append_nil, List.replicate, List.getD_cons_zero, List.getD_cons_succ, List.getD_nil, List.nodup_nil, ite_true, ite_false, Bool.not_true, Bool.not_false, Bool.false_eq_true, reduceCtorEq, Nat.reduceSub, Nat.reduceAdd, List.nodup_cons, List.not_mem_nil, not_false_eq_true, and_self, and_true, true_and, decide_true, decide_false, List.take_succ_cons, List.take_zero, sizeLine_eq, Nat.zero_le, Nat.reduceLeDiff, Nat.reduceLT, Nat.reduceEqDiff, cp_bind, cp_pure, cp_bindS, cp_seqS, cp_nmO, cp_cO, cp_frzD, cp_frzO, cp_valO, cp_valD, cp_binX, cp_unX, cp_caX, cp_nilA, cp_consA, cp_nilD, cp_consD, cp_free_eq, cp_setS, cp_retS, cp_exprS, cp_ifS, cp_nxS, cp_retN, cp_mvX, cp_frD, cp_frO, cp_truO, cp_tstB, cp_andT, cp_orT, cp_notT, cp_notX, cp_andO, cp_orO, cp_ifE, cp_chX, cp_noO, cp_ptO, cp_slX, cp_tupX, cp_lstX, cp_dic0X, cp_itX, cp_enX, cp_rg1, cp_gN, cp_asgS, cp_forS, cp_loopS_cons, cp_callX, cp_appF, cp_mkX, cp_fldS, cp_attX, cp_raiseS1, cp_raiseS0, cp_tryS, cp_muX, cp_muN, cp_mtX, cp_hasOw_eq, cp_gSubD, cp_parS, cp_kwX, cp_yesT, cp_compX, cp_compL_cons]
  try rfl
theorem cpeople {d : D} (h : F18 [.fz d] = .ok [.fz d] (.fz (.bl false))) : F25 [.fz (.tup [.tup [d, .non]])] = .exc [.fz (.tup [.tup [d, .non]])] 6 [("number", .int 0)] := by
  have e1 : (orT (notT (truO (frzO (caX isiF (consA (nmO 0) (consA (cO (.ty "tuple")) nilA)))))) (notT (tstB (chX leD leD (cO (.int 1)) (frzO (caX (one lenD) (consA (nmO 0) nilA))) (cO (.int 8)))))) [.fz (.tup [.tup [d, .non]]), .no, .no, .no] = .ok [.fz (.tup [.tup [d, .non]]), .no, .no, .no] false := by kernel_rfl
  have e2 := person h
  unfold F25 g25
  simp only [↓e1, e2, bR_ok, bR_exc, bR_bad, kR_ok, bS_ok, bS_exc, bS_bad, nS_nx, nS_rt, nS_exc, nS_bk, nS_ct, nS_bad, gS_nx, lS_nx, lS_ct, lS_bk, lS_rt, lS_exc, fS_rt, fS_nx, fS_exc, hS_nx, hS_rt, hS_exc, pR_ok, pR_exc, oR_some, oR_none, cR_true, cR_false, xS_ok, con_vl, con_sl, conS_nil, conS_cons, loopS_nil, compL_nil, handle_nil, handle_cons, ap_bodyF, takeR_ok, takeR_exc, nmS, coS, vaS, vaA, vdS, vdA, mvS, frS, tsS, blO, ptS, muS, owB, gbS, gbD, flS, tkS, goneS, frz_fz, frz_ow, frz_oo, mine_no, mine_fz, mine_ow, mine_oo, owned_no, owned_fz, owned_ow, owned_oo, flag_no, flag_fz, flag_ow, flag_oo, give, back, argS, ownIx, wb, one, two, intS, blS, itemsD_lst, itemsD_tup, itemsD_scr, itemsD_str, enumD_lst, enumD_tup, numD_nil, numD_cons, truD_bl, truD_non, truD_int, truD_lst, truD_tup, attD, recOf, putFD, ap_gNilD, ap_gTupD, ap_gConsD, List.getElem?_cons_zero, List.getElem?_cons_succ, List.getElem?_nil, List.set_cons_zero, List.set_cons_succ, List.map_cons, List.map_nil, List.length_cons, List.length_nil, List.cons_append, List.nil_append, List.append_nil, List.replicate, List.getD_cons_zero, List.getD_cons_succ, List.getD_nil, List.nodup_nil, ite_true, ite_false, Bool.not_true, Bool.not_false, Bool.false_eq_true, reduceCtorEq, Nat.reduceSub, Nat.reduceAdd, List.nodup_cons, List.not_mem_nil, not_false_eq_true, and_self, and_true, true_and, decide_true, decide_false, List.take_succ_cons, List.take_zero, sizeLine_eq, Nat.zero_le, Nat.reduceLeDiff, Nat.reduceLT, Nat.reduceEqDiff, cp_bind, cp_pure, cp_bindS, cp_seqS, cp_nmO, cp_cO, cp_frzD, cp_frzO, cp_valO, cp_valD, cp_binX, cp_unX, cp_caX, cp_nilA, cp_consA, cp_nilD, cp_consD, cp_free_eq, cp_setS, cp_retS, cp_exprS, cp_ifS, cp_nxS, cp_retN, cp_mvX, cp_frD, cp_frO, cp_truO, cp_tstB, cp_andT, cp_orT, cp_notT, cp_notX, cp_andO, cp_orO, cp_ifE, cp_chX, cp_noO, cp_ptO, cp_slX, cp_tupX, cp_lstX, cp_dic0X, cp_itX, cp_enX, cp_rg1, cp_gN, cp_asgS, cp_forS, cp_loopS_cons, cp_callX, cp_appF, cp_mkX, cp_fldS, cp_attX, cp_raiseS1, cp_raiseS0, cp_tryS, cp_muX, cp_muN, cp_mtX, cp_hasOw_eq, cp_gSubD, cp_parS, cp_kwX, cp_yesT, cp_compX, cp_compL_cons]
  try rfl
theorem house {d : D} (h : F18 [.fz d] = .ok [.fz d] (.fz (.bl false))) : F28 [.oo false 24 [], .fz (.tup [.tup [d, .non]]), .fz .non, .fz (.int 0), .fz (.int 0)] = .exc [.oo false 24 [], .fz (.tup [.tup [d, .non]]), .fz .non, .fz (.int 0), .fz (.int 0)] 6 [("number", .int 0)] := by
  have e2 := cpeople h
  unfold F28 g28
  simp only [e2, bR_ok, bR_exc, bR_bad, kR_ok, bS_ok, bS_exc, bS_bad, nS_nx, nS_rt, nS_exc, nS_bk, nS_ct, nS_bad, gS_nx, lS_nx, lS_ct, lS_bk, lS_rt, lS_exc, fS_rt, fS_nx, fS_exc, hS_nx, hS_rt, hS_exc, pR_ok, pR_exc, oR_some, oR_none, cR_true, cR_false, xS_ok, con_vl, con_sl, conS_nil, conS_cons, loopS_nil, compL_nil, handle_nil, handle_cons, ap_bodyF, takeR_ok, takeR_exc, nmS, coS, vaS, vaA, vdS, vdA, mvS, frS, tsS, blO, ptS, muS, owB, gbS, gbD, flS, tkS, goneS, frz_fz, frz_ow, frz_oo, mine_no, mine_fz, mine_ow, mine_oo, owned_no, owned_fz, owned_ow, owned_oo, flag_no, flag_fz, flag_ow, flag_oo, give, back, argS, ownIx, wb, one, two, intS, blS, itemsD_lst, itemsD_tup, itemsD_scr, itemsD_str, enumD_lst, enumD_tup, numD_nil, numD_cons, truD_bl, truD_non, truD_int, truD_lst, truD_tup, attD, recOf, putFD, ap_gNilD, ap_gTupD, ap_gConsD, List.getElem?_cons_zero, List.getElem?_cons_succ, List.getElem?_nil, List.set_cons_zero, List.set_cons_succ, List.map_cons, List.map_nil, List.length_cons, List.length_nil, List.cons_append, List.nil_append, List.append_nil, List.replicate, List.getD_cons_zero, List.getD_cons_succ, List.getD_nil, List.nodup_nil, ite_true, ite_false, Bool.not_true, Bool.not_false, Bool.false_eq_true, reduceCtorEq, Nat.reduceSub, Nat.reduceAdd, List.nodup_cons, List.not_mem_nil, not_false_eq_true, and_self, and_true, true_and, decide_true, decide_false, List.take_succ_cons, List.take_zero, sizeLine_eq, Nat.zero_le, Nat.reduceLeDiff, Nat.reduceLT, Nat.reduceEqDiff, cp_bind, cp_pure, cp_bindS, cp_seqS, cp_nmO, cp_cO, cp_frzD, cp_frzO, cp_valO, cp_valD, cp_binX, cp_unX, cp_caX, cp_nilA, cp_consA, cp_nilD, cp_consD, cp_free_eq, cp_setS, cp_retS, cp_exprS, cp_ifS, cp_nxS, cp_retN, cp_mvX, cp_frD, cp_frO, cp_truO, cp_tstB, cp_andT, cp_orT, cp_notT, cp_notX, cp_andO, cp_orO, cp_ifE, cp_chX, cp_noO, cp_ptO, cp_slX, cp_tupX, cp_lstX, cp_dic0X, cp_itX, cp_enX, cp_rg1, cp_gN, cp_asgS, cp_forS, cp_loopS_cons, cp_callX, cp_appF, cp_mkX, cp_fldS, cp_attX, cp_raiseS1, cp_raiseS0, cp_tryS, cp_muX, cp_muN, cp_mtX, cp_hasOw_eq, cp_gSubD, cp_parS, cp_kwX, cp_yesT, cp_compX, cp_compL_cons]
theorem ref2 {d : D} (h : F18 [.fz d] = .ok [.fz d] (.fz (.bl false))) : F61 [.fz (.int 2), .fz d] = .ok [.fz (.int 2), .fz d] (.fz (.tup [.str "people", .int 0])) := by
  have e2 := house h
  have t0 : ∀ s2, (tstB (binX (eqD false) (nmO 0) (cO (.int 0)))) [.fz (.int 2), .fz d, s2, .no, .no] = .ok [.fz (.int 2), .fz d, s2, .no, .no] false := fun _ => by kernel_rfl
  have t1 : ∀ s2, (tstB (binX (eqD false) (nmO 0) (cO (.int 1)))) [.fz (.int 2), .fz d, s2, .no, .no] = .ok [.fz (.int 2), .fz d, s2, .no, .no] false := fun _ => by kernel_rfl
  have c10 : catF 10 6 = some true := by kernel_rfl
  have t2 : (tstB (binX (eqD false) (nmO 3) (cO (.str "sum")))) [.fz (.int 2), .fz d, .fz (.exc 6 [("number", .int 0)]), .fz (.str "people"), .no] = .ok [.fz (.int 2), .fz d, .fz (.exc 6 [("number", .int 0)]), .fz (.str "people"), .no] false := by kernel_rfl
  have t3 : (tstB (binX (inD false) (nmO 3) (frzO (lstX (consD (valD (cO (.str "story"))) (consD (valD (cO (.str "people"))) nilD)))))) [.fz (.int 2), .fz d, .fz (.exc 6 [("number", .int 0)]), .fz (.str "people"), .no] = .ok [.fz (.int 2), .fz d, .fz (.exc 6 [("number", .int 0)]), .fz (.str "people"), .no] true := by kernel_rfl
  have t4 : (tupX (consD (frD 3) (consD (valD (attX [(6, true), (7, true), (9, true), (13, true)] "number" (nmO 2))) nilD))) [.fz (.int 2), .fz d, .fz (.exc 6 [("number", .int 0)]), .fz (.str "people"), .no] = .ok [.fz (.int 2), .fz d, .fz (.exc 6 [("number", .int 0)]), .fz (.str "people"), .no] (.fz (.tup [.str "people", .int 0])) := by kernel_rfl
  have t5 : (frzO (tupX (consD (frzD (tupX (consD (frD 1) (consD (valD (cO .non)) nilD)))) nilD))) [.fz (.int 2), .fz d, .fz .non, .no, .no] = .ok [.fz (.int 2), .fz d, .fz .non, .no, .no] (.vl (.tup [.tup [d, .non]])) := by kernel_rfl
  unfold F61 g61
  simp only [↓t0, ↓t1, ↓t2, ↓t3, ↓t4, ↓t5, e2, c10, sort6, bR_ok, bR_exc, bR_bad, kR_ok, bS_ok, bS_exc, bS_bad, nS_nx, nS_rt, nS_exc, nS_bk, nS_ct, nS_bad, gS_nx, lS_nx, lS_ct, lS_bk, lS_rt, lS_exc, fS_rt, fS_nx, fS_exc, hS_nx, hS_rt, hS_exc, pR_ok, pR_exc, oR_some, oR_none, cR_true, cR_false, xS_ok, con_vl, con_sl, conS_nil, conS_cons, loopS_nil, compL_nil, handle_nil, handle_cons, ap_bodyF, takeR_ok, takeR_exc, nmS, coS, vaS, vaA, vdS, vdA, mvS, frS, tsS, blO, ptS, muS, owB, gbS, gbD, flS, tkS, goneS, frz_fz, frz_ow, frz_oo, mine_no, mine_fz, mine_ow, mine_oo, owned_no, owned_fz, owned_ow, owned_oo, flag_no, flag_fz, flag_ow, flag_oo, give, back, argS, ownIx, wb, one, two, intS, blS, itemsD_lst, itemsD_tup, itemsD_scr, itemsD_str, enumD_lst, enumD_tup, numD_nil, numD_cons, truD_bl, truD_non, truD_int, truD_lst, truD_tup, attD, recOf, putFD, ap_gNilD, ap_gTupD, ap_gConsD, List.getElem?_cons_zero, List.getElem?_cons_succ, List.getElem?_nil, List.set_cons_zero, List.set_cons_succ, List.map_cons, List.map_nil, List.length_cons, List.length_nil, List.cons_append, List.nil_append, List.append_nil, List.replicate, List.getD_cons_zero, List.getD_cons_succ, List.getD_nil, List.nodup_nil, ite_true, ite_false, Bool.not_true, Bool.not_false, Bool.false_eq_true, reduceCtorEq, Nat.reduceSub, Nat.reduceAdd, List.nodup_cons, List.not_mem_nil, not_false_eq_true, and_self, and_true, true_and, decide_true, decide_false, List.take_succ_cons, List.take_zero, sizeLine_eq, Nat.zero_le, Nat.reduceLeDiff, Nat.reduceLT, Nat.reduceEqDiff, cp_bind, cp_pure, cp_bindS, cp_seqS, cp_nmO, cp_cO, cp_frzD, cp_frzO, cp_valO, cp_valD, cp_binX, cp_unX, cp_caX, cp_nilA, cp_consA, cp_nilD, cp_consD, cp_free_eq, cp_setS, cp_retS, cp_exprS, cp_ifS, cp_nxS, cp_retN, cp_mvX, cp_frD, cp_frO, cp_truO, cp_tstB, cp_andT, cp_orT, cp_notT, cp_notX, cp_andO, cp_orO, cp_ifE, cp_chX, cp_noO, cp_ptO, cp_slX, cp_tupX, cp_lstX, cp_dic0X, cp_itX, cp_enX, cp_rg1, cp_gN, cp_asgS, cp_forS, cp_loopS_cons, cp_callX, cp_appF, cp_mkX, cp_fldS, cp_attX, cp_raiseS1, cp_raiseS0, cp_tryS, cp_muX, cp_muN, cp_mtX, cp_hasOw_eq, cp_gSubD, cp_parS, cp_kwX, cp_yesT, cp_compX, cp_compL_cons]
  try rfl
/-! ### the pool -/
def pool (m : Bool) (p : Int) : Sl := .ow m [.int p]
theorem ix00 : ixN 1 0 = some 0 := rfl
theorem take {m : Bool} {p n : Int} (h0 : 0 < n) (h1 : n < 1073741824) : F57 [.ow m [.int p], .fz (.int n)] = .ok [.ow m [.int (p / n)], .fz (.int n)] (.fz (.int (p % n))) := by
  have e1 : ∀ s, binX ixD (nmO 0) (cO (.int 0)) [.ow true [.int p], .fz (.int n), s] = .ok [.ow true [.int p], .fz (.int n), s] (.fz (.int p)) := fun _ => by kernel_rfl
  unfold F57 g57
  simp only [↓e1, bR_ok, bR_exc, bR_bad, kR_ok, bS_ok, bS_exc, bS_bad, nS_nx, nS_rt, nS_exc, nS_bk, nS_ct, nS_bad, gS_nx, lS_nx, lS_ct, lS_bk, lS_rt, lS_exc, fS_rt, fS_nx, fS_exc, hS_nx, hS_rt, hS_exc, pR_ok, pR_exc, oR_some, oR_none, cR_true, cR_false, xS_ok, con_vl, con_sl, conS_nil, conS_cons, loopS_nil, compL_nil, handle_nil, handle_cons, ap_bodyF, takeR_ok, takeR_exc, nmS, coS, vaS, vaA, vdS, vdA, mvS, frS, tsS, blO, ptS, muS, owB, gbS, gbD, flS, tkS, goneS, frz_fz, frz_ow, frz_oo, mine_no, mine_fz, mine_ow, mine_oo, owned_no, owned_fz, owned_ow, owned_oo, flag_no, flag_fz, flag_ow, flag_oo, give, back, argS, ownIx, wb, one, two, intS, blS, itemsD_lst, itemsD_tup, itemsD_scr, itemsD_str, enumD_lst, enumD_tup, numD_nil, numD_cons, truD_bl, truD_non, truD_int, truD_lst, truD_tup, attD, recOf, putFD, ap_gNilD, ap_gTupD, ap_gConsD, List.getElem?_cons_zero, List.getElem?_cons_succ, List.getElem?_nil, List.set_cons_zero, List.set_cons_succ, List.map_cons, List.map_nil, List.length_cons, List.length_nil, List.cons_append, List.nil_append, List.append_nil, List.replicate, List.getD_cons_zero, List.getD_cons_succ, List.getD_nil, List.nodup_nil, ite_true, ite_false, Bool.not_true, Bool.not_false, Bool.false_eq_true, reduceCtorEq, Nat.reduceSub, Nat.reduceAdd, List.nodup_cons, List.not_mem_nil, not_false_eq_true, and_self, and_true, true_and, decide_true, decide_false, List.take_succ_cons, List.take_zero, sizeLine_eq, Nat.zero_le, Nat.reduceLeDiff, Nat.reduceLT, Nat.reduceEqDiff, cp_bind, cp_pure, cp_bindS, cp_seqS, cp_nmO, cp_cO, cp_frzD, cp_frzO, cp_valO, cp_valD, cp_binX, cp_unX, cp_caX, cp_nilA, cp_consA, cp_nilD, cp_consD, cp_free_eq, cp_setS, cp_retS, cp_exprS, cp_ifS, cp_nxS, cp_retN, cp_mvX, cp_frD, cp_frO, cp_truO, cp_tstB, cp_andT, cp_orT, cp_notT, cp_notX, cp_andO, cp_orO, cp_ifE, cp_chX, cp_noO, cp_ptO, cp_slX, cp_tupX, cp_lstX, cp_dic0X, cp_itX, cp_enX, cp_rg1, cp_gN, cp_asgS, cp_forS, cp_loopS_cons, cp_callX, cp_appF, cp_mkX, cp_fldS, cp_attX, cp_raiseS1, cp_raiseS0, cp_tryS, cp_muX, cp_muN, cp_mtX, cp_hasOw_eq, cp_gSubD, cp_parS, cp_kwX, cp_yesT, cp_compX, cp_compL_cons, divmodD_eq h0 h1, ix00, List.set_cons_zero]
  try rfl
theorem ixList {xs : List D} {i : Int} {n : Nat} (hl : xs.length = n) (h0 : 0 ≤ i) (h1 : i < n) : ∃ d, d ∈ xs ∧ ixD (.lst xs) (.int i) = some (.fz d) := ixD_lst h0 (by omega)
def isS (n : Nat) (d : D) : Prop := ∃ w : Str, d = .str w ∧ w.length ≤ n
def ws13 : List D := [.str "all", .str "and", .str "children", .str "childless", .str "crown", .str "else", .str "if", .str "lives", .str "not", .str "of", .str "or", .str "stock", .str "to"]
def ws8 : List D := [.str "A", .str "0", .str " ", .str "-", .str "\n", .str "z", .str "Z", .str "."]
theorem all13 : ∀ d ∈ ws13, isS 10 d := by
  intro d h
  simp only [ws13, List.mem_cons, List.not_mem_nil, or_false] at h
  rcases h with rfl | rfl | rfl | rfl | rfl | rfl | rfl | rfl | rfl | rfl | rfl | rfl | rfl <;> exact ⟨_, rfl, by decide⟩
theorem all8 : ∀ d ∈ ws8, isS 10 d := by
  intro d h
  simp only [ws8, List.mem_cons, List.not_mem_nil, or_false] at h
  rcases h with rfl | rfl | rfl | rfl | rfl | rfl | rfl | rfl <;> exact ⟨_, rfl, by decide⟩
theorem abc_len : ("abcdefghijklmnopqrstuvwxyz" : Str).length = 26 := by decide
theorem l13 : lstX (consD (valD (cO (.str "all"))) (consD (valD (cO (.str "and"))) (consD (valD (cO (.str "children"))) (consD (valD (cO (.str "childless"))) (consD (valD (cO (.str "crown"))) (consD (valD (cO (.str "else"))) (consD (valD (cO (.str "if"))) (consD (valD (cO (.str "lives"))) (consD (valD (cO (.str "not"))) (consD (valD (cO (.str "of"))) (consD (valD (cO (.str "or"))) (consD (valD (cO (.str "stock"))) (consD (valD (cO (.str "to"))) nilD))))))))))))) = fun ρ => .ok ρ (.ow false ws13) := rfl
theorem l8 : lstX (consD (valD (cO (.str "A"))) (consD (valD (cO (.str "0"))) (consD (valD (cO (.str " "))) (consD (valD (cO (.str "-"))) (consD (valD (cO (.str "\n"))) (consD (valD (cO (.str "z"))) (consD (valD (cO (.str "Z"))) (consD (valD (cO (.str "."))) nilD)))))))) = fun ρ => .ok ρ (.ow false ws8) := rfl
/-- the letters' loop -/
def LI (k : Nat) (ρ : List Sl) : Prop := ∃ (p : Int) (z : Str) (t : Sl), ρ = [.ow true [.int p], .ow false ws13, .fz (.str z), t, .no, .no, .no] ∧ z.length ≤ k ∧ t.mine = false
theorem letters {p : Int} {z : Str} {n : Nat} (hz : z.length ≤ 0) (hn : n ≤ 20) : ∃ ρ', loopS (gN 3) (setS 2 (binX addD (nmO 2) (frzO (binX ixD (cO (.str "abcdefghijklmnopqrstuvwxyz")) (frzO (callX F57 [] (consA (nmO 0) (consA (cO (.int 26)) nilA)))))))) (rngD 0 n) [.ow true [.int p], .ow false ws13, .fz (.str z), .no, .no, .no, .no] = .nx ρ' ∧ LI n ρ' := by
  have := loopS_inv (t := gN 3) (body := setS 2 (binX addD (nmO 2) (frzO (binX ixD (cO (.str "abcdefghijklmnopqrstuvwxyz")) (frzO (callX F57 [] (consA (nmO 0) (consA (cO (.int 26)) nilA)))))))) LI (rngD 0 n) 0 [.ow true [.int p], .ow false ws13, .fz (.str z), .no, .no, .no, .no] ⟨p, z, .no, rfl, hz, rfl⟩ ?_
  · rw [rngD_length] at this
    rw [show 0 + ((n : Int) - 0).toNat = n by omega] at this
    exact this
  · intro j d ρ hj hi
    obtain ⟨p, z, t, rfl, hz, ht⟩ := hi
    have hj' : j < n := by
      have := (List.getElem?_eq_some_iff.mp hj).1
      rw [rngD_length] at this
      omega
    obtain ⟨c, hc, e⟩ := ixD_str (z := "abcdefghijklmnopqrstuvwxyz") (i := p % 26) (by decide) (Int.emod_nonneg _ (by decide)) (by rw [abc_len]; have := Int.emod_lt_of_pos p (show (0 : Int) < 26 by decide); omega)
    have ea : addD (.str z) (.str ⟨#[c]⟩) = some (.fz (.str (z ++ ⟨#[c]⟩))) := addD_str (by show z.length + 1 ≤ 1000; omega)
    refine ⟨[.ow true [.int p], .ow false ws13, .fz (.str z), .fz d, .no, .no, .no], [.ow true [.int (p / 26)], .ow false ws13, .fz (.str (z ++ ⟨#[c]⟩)), .fz d, .no, .no, .no], ?_, .inl ?_, p / 26, _, .fz d, rfl, ?_, rfl⟩
    · simp only [bR_ok, bR_exc, bR_bad, kR_ok, bS_ok, bS_exc, bS_bad, nS_nx, nS_rt, nS_exc, nS_bk, nS_ct, nS_bad, gS_nx, lS_nx, lS_ct, lS_bk, lS_rt, lS_exc, fS_rt, fS_nx, fS_exc, hS_nx, hS_rt, hS_exc, pR_ok, pR_exc, oR_some, oR_none, cR_true, cR_false, xS_ok, con_vl, con_sl, conS_nil, conS_cons, loopS_nil, compL_nil, handle_nil, handle_cons, ap_bodyF, takeR_ok, takeR_exc, nmS, coS, vaS, vaA, vdS, vdA, mvS, frS, tsS, blO, ptS, muS, owB, gbS, gbD, flS, tkS, goneS, frz_fz, frz_ow, frz_oo, mine_no, mine_fz, mine_ow, mine_oo, owned_no, owned_fz, owned_ow, owned_oo, flag_no, flag_fz, flag_ow, flag_oo, give, back, argS, ownIx, wb, one, two, intS, blS, itemsD_lst, itemsD_tup, itemsD_scr, itemsD_str, enumD_lst, enumD_tup, numD_nil, numD_cons, truD_bl, truD_non, truD_int, truD_lst, truD_tup, attD, recOf, putFD, ap_gNilD, ap_gTupD, ap_gConsD, List.getElem?_cons_zero, List.getElem?_cons_succ, List.getElem?_nil, List.set_cons_zero, List.set_cons_succ, List.map_cons, List.map_nil, List.length_cons, List.length_nil, List.cons_append, List.nil_append, List.append_nil, List.replicate, List.getD_cons_zero, List.getD_cons_succ, List.getD_nil, List.nodup_nil, ite_true, ite_false, Bool.not_true, Bool.not_false, Bool.false_eq_true, reduceCtorEq, Nat.reduceSub, Nat.reduceAdd, List.nodup_cons, List.not_mem_nil, not_false_eq_true, and_self, and_true, true_and, decide_true, decide_false, List.take_succ_cons, List.take_zero, sizeLine_eq, Nat.zero_le, Nat.reduceLeDiff, Nat.reduceLT, Nat.reduceEqDiff, cp_bind, cp_pure, cp_bindS, cp_seqS, cp_nmO, cp_cO, cp_frzD, cp_frzO, cp_valO, cp_valD, cp_binX, cp_unX, cp_caX, cp_nilA, cp_consA, cp_nilD, cp_consD, cp_free_eq, cp_setS, cp_retS, cp_exprS, cp_ifS, cp_nxS, cp_retN, cp_mvX, cp_frD, cp_frO, cp_truO, cp_tstB, cp_andT, cp_orT, cp_notT, cp_notX, cp_andO, cp_orO, cp_ifE, cp_chX, cp_noO, cp_ptO, cp_slX, cp_tupX, cp_lstX, cp_dic0X, cp_itX, cp_enX, cp_rg1, cp_gN, cp_asgS, cp_forS, cp_loopS_cons, cp_callX, cp_appF, cp_mkX, cp_fldS, cp_attX, cp_raiseS1, cp_raiseS0, cp_tryS, cp_muX, cp_muN, cp_mtX, cp_hasOw_eq, cp_gSubD, cp_parS, cp_kwX, cp_yesT, cp_compX, cp_compL_cons, ht]
    · simp only [bR_ok, bR_exc, bR_bad, kR_ok, bS_ok, bS_exc, bS_bad, nS_nx, nS_rt, nS_exc, nS_bk, nS_ct, nS_bad, gS_nx, lS_nx, lS_ct, lS_bk, lS_rt, lS_exc, fS_rt, fS_nx, fS_exc, hS_nx, hS_rt, hS_exc, pR_ok, pR_exc, oR_some, oR_none, cR_true, cR_false, xS_ok, con_vl, con_sl, conS_nil, conS_cons, loopS_nil, compL_nil, handle_nil, handle_cons, ap_bodyF, takeR_ok, takeR_exc, nmS, coS, vaS, vaA, vdS, vdA, mvS, frS, tsS, blO, ptS, muS, owB, gbS, gbD, flS, tkS, goneS, frz_fz, frz_ow, frz_oo, mine_no, mine_fz, mine_ow, mine_oo, owned_no, owned_fz, owned_ow, owned_oo, flag_no, flag_fz, flag_ow, flag_oo, give, back, argS, ownIx, wb, one, two, intS, blS, itemsD_lst, itemsD_tup, itemsD_scr, itemsD_str, enumD_lst, enumD_tup, numD_nil, numD_cons, truD_bl, truD_non, truD_int, truD_lst, truD_tup, attD, recOf, putFD, ap_gNilD, ap_gTupD, ap_gConsD, List.getElem?_cons_zero, List.getElem?_cons_succ, List.getElem?_nil, List.set_cons_zero, List.set_cons_succ, List.map_cons, List.map_nil, List.length_cons, List.length_nil, List.cons_append, List.nil_append, List.append_nil, List.replicate, List.getD_cons_zero, List.getD_cons_succ, List.getD_nil, List.nodup_nil, ite_true, ite_false, Bool.not_true, Bool.not_false, Bool.false_eq_true, reduceCtorEq, Nat.reduceSub, Nat.reduceAdd, List.nodup_cons, List.not_mem_nil, not_false_eq_true, and_self, and_true, true_and, decide_true, decide_false, List.take_succ_cons, List.take_zero, sizeLine_eq, Nat.zero_le, Nat.reduceLeDiff, Nat.reduceLT, Nat.reduceEqDiff, cp_bind, cp_pure, cp_bindS, cp_seqS, cp_nmO, cp_cO, cp_frzD, cp_frzO, cp_valO, cp_valD, cp_binX, cp_unX, cp_caX, cp_nilA, cp_consA, cp_nilD, cp_consD, cp_free_eq, cp_setS, cp_retS, cp_exprS, cp_ifS, cp_nxS, cp_retN, cp_mvX, cp_frD, cp_frO, cp_truO, cp_tstB, cp_andT, cp_orT, cp_notT, cp_notX, cp_andO, cp_orO, cp_ifE, cp_chX, cp_noO, cp_ptO, cp_slX, cp_tupX, cp_lstX, cp_dic0X, cp_itX, cp_enX, cp_rg1, cp_gN, cp_asgS, cp_forS, cp_loopS_cons, cp_callX, cp_appF, cp_mkX, cp_fldS, cp_attX, cp_raiseS1, cp_raiseS0, cp_tryS, cp_muX, cp_muN, cp_mtX, cp_hasOw_eq, cp_gSubD, cp_parS, cp_kwX, cp_yesT, cp_compX, cp_compL_cons, take (show (0 : Int) < 26 by decide) (by decide), e, ea]
    · rw [len_add]
      show z.length + 1 ≤ _
      omega
/-- the end -/
theorem drawnEnd {p : Int} {z : Str} {t : Sl} (hz : z.length ≤ 20) (ht : t.mine = false) : ∃ ρ' p' z', (seqS (setS 4 (callX F57 [] (consA (nmO 0) (consA (frzO (binX addD (frzO (caX (one lenD) (consA (nmO 2) nilA))) (cO (.int 1)))) nilA)))) (seqS (setS 5 (binX ixD (frzO (lstX (consD (valD (cO (.str "A"))) (consD (valD (cO (.str "0"))) (consD (valD (cO (.str " "))) (consD (valD (cO (.str "-"))) (consD (valD (cO (.str "\n"))) (consD (valD (cO (.str "z"))) (consD (valD (cO (.str "Z"))) (consD (valD (cO (.str "."))) nilD)))))))))) (frzO (callX F57 [] (consA (nmO 0) (consA (cO (.int 8)) nilA)))))) (seqS (setS 6 (lstX (consD (frD 2) (consD (frD 2) (consD (frzD (binX addD (frzO (binX addD (frzO (slX (nmO 2) noO (ptO (nmO 4)))) (nmO 5))) (frzO (slX (nmO 2) (ptO (nmO 4)) noO)))) (consD (frzD (binX addD (frzO (slX (nmO 2) noO (ptO (nmO 4)))) (frzO (slX (nmO 2) (ptO (frzO (binX addD (nmO 4) (cO (.int 1))))) noO)))) nilD)))))) (retS (binX ixD (frzO (binX addD (nmO 6) (frzO (lstX (consD (frzD (binX addD (frzO (binX addD (frzO (slX (nmO 2) noO (ptO (nmO 4)))) (nmO 5))) (frzO (slX (nmO 2) (ptO (frzO (binX addD (nmO 4) (cO (.int 1))))) noO)))) (consD (frzD (mtX "str" upperG (nmO 2) nilA)) nilD)))))) (frzO (callX F57 [] (consA (nmO 0) (consA (cO (.int 6)) nilA)))))))))
    [.ow true [.int p], .ow false ws13, .fz (.str z), t, .no, .no, .no] = .rt (.ow true [.int p'] :: ρ') (.fz (.str z')) ∧ z'.length ≤ 100 := by
  have hn : (0 : Int) < (z.length : Int) + 1 := by omega
  have hn2 : (z.length : Int) + 1 < 1073741824 := by omega
  obtain ⟨p1, hp1⟩ : ∃ p1, p1 = p / ((z.length : Int) + 1) := ⟨_, rfl⟩
  obtain ⟨s, hs⟩ : ∃ s, s = p % ((z.length : Int) + 1) := ⟨_, rfl⟩
  have ea1 : addD (.int z.length) (.int 1) = some (.fz (.int ((z.length : Int) + 1))) := rfl
  have ea2 : addD (.int s) (.int 1) = some (.fz (.int (s + 1))) := rfl
  obtain ⟨d, hd, e8⟩ := ixList (xs := ws8) (n := 8) (i := p1 % 8) rfl (Int.emod_nonneg _ (by decide)) (Int.emod_lt_of_pos p1 (by decide))
  obtain ⟨w, rfl, hw⟩ := all8 d hd
  have hz' : z.length ≤ 1000 := by omega
  have k1 := cutS_len z none (some s)
  have k2 := cutS_len z (some s) none
  have k3 := cutS_len z (some (s + 1)) none
  have a1 : addD (.str (cutS z none (some s))) (.str w) = some (.fz (.str (cutS z none (some s) ++ w))) := addD_str (by omega)
  have k4 := len_add (cutS z none (some s)) w
  have a2 : addD (.str (cutS z none (some s) ++ w)) (.str (cutS z (some s) none)) = some (.fz (.str (cutS z none (some s) ++ w ++ cutS z (some s) none))) := addD_str (by omega)
  have k5 := len_add (cutS z none (some s) ++ w) (cutS z (some s) none)
  have a3 : addD (.str (cutS z none (some s))) (.str (cutS z (some (s + 1)) none)) = some (.fz (.str (cutS z none (some s) ++ cutS z (some (s + 1)) none))) := addD_str (by omega)
  have k6 := len_add (cutS z none (some s)) (cutS z (some (s + 1)) none)
  have a4 : addD (.str (cutS z none (some s) ++ w)) (.str (cutS z (some (s + 1)) none)) = some (.fz (.str (cutS z none (some s) ++ w ++ cutS z (some (s + 1)) none))) := addD_str (by omega)
  have k7 := len_add (cutS z none (some s) ++ w) (cutS z (some (s + 1)) none)
  have k8 := len_upper z
  have a5 : addD (.lst [.str z, .str z, .str (cutS z none (some s) ++ w ++ cutS z (some s) none), .str (cutS z none (some s) ++ cutS z (some (s + 1)) none)]) (.lst [.str (cutS z none (some s) ++ w ++ cutS z (some (s + 1)) none), .str (Txt.upper z)])
    = some (.ow false [.str z, .str z, .str (cutS z none (some s) ++ w ++ cutS z (some s) none), .str (cutS z none (some s) ++ cutS z (some (s + 1)) none), .str (cutS z none (some s) ++ w ++ cutS z (some (s + 1)) none), .str (Txt.upper z)]) := by kernel_rfl
  obtain ⟨d, hd, e6⟩ := ixList (xs := [.str z, .str z, .str (cutS z none (some s) ++ w ++ cutS z (some s) none), .str (cutS z none (some s) ++ cutS z (some (s + 1)) none), .str (cutS z none (some s) ++ w ++ cutS z (some (s + 1)) none), .str (Txt.upper z)]) (n := 6) (i := p1 / 8 % 6) rfl (Int.emod_nonneg _ (by decide)) (Int.emod_lt_of_pos _ (by decide))
  have hd' : ∃ z', d = .str z' ∧ z'.length ≤ 100 := by
    simp only [List.mem_cons, List.not_mem_nil, or_false] at hd
    rcases hd with rfl | rfl | rfl | rfl | rfl | rfl <;> exact ⟨_, rfl, by omega⟩
  obtain ⟨z', rfl, hz3⟩ := hd'
  have ks : kindIs "str" (.str z) = true := rfl
  refine ⟨[.ow false ws13, .fz (.str z), t, .fz (.int s), .fz (.str w), .ow false [.str z, .str z, .str (cutS z none (some s) ++ w ++ cutS z (some s) none), .str (cutS z none (some s) ++ cutS z (some (s + 1)) none)]], p1 / 8 / 6, z', ?_, hz3⟩
  simp only [bR_ok, bR_exc, bR_bad, kR_ok, bS_ok, bS_exc, bS_bad, nS_nx, nS_rt, nS_exc, nS_bk, nS_ct, nS_bad, gS_nx, lS_nx, lS_ct, lS_bk, lS_rt, lS_exc, fS_rt, fS_nx, fS_exc, hS_nx, hS_rt, hS_exc, pR_ok, pR_exc, oR_some, oR_none, cR_true, cR_false, xS_ok, con_vl, con_sl, conS_nil, conS_cons, loopS_nil, compL_nil, handle_nil, handle_cons, ap_bodyF, takeR_ok, takeR_exc, nmS, coS, vaS, vaA, vdS, vdA, mvS, frS, tsS, blO, ptS, muS, owB, gbS, gbD, flS, tkS, goneS, frz_fz, frz_ow, frz_oo, mine_no, mine_fz, mine_ow, mine_oo, owned_no, owned_fz, owned_ow, owned_oo, flag_no, flag_fz, flag_ow, flag_oo, give, back, argS, ownIx, wb, one, two, intS, blS, itemsD_lst, itemsD_tup, itemsD_scr, itemsD_str, enumD_lst, enumD_tup, numD_nil, numD_cons, truD_bl, truD_non, truD_int, truD_lst, truD_tup, attD, recOf, putFD, ap_gNilD, ap_gTupD, ap_gConsD, List.getElem?_cons_zero, List.getElem?_cons_succ, List.getElem?_nil, List.set_cons_zero, List.set_cons_succ, List.map_cons, List.map_nil, List.length_cons, List.length_nil, List.cons_append, List.nil_append, List.append_nil, List.replicate, List.getD_cons_zero, List.getD_cons_succ, List.getD_nil, List.nodup_nil, ite_true, ite_false, Bool.not_true, Bool.not_false, Bool.false_eq_true, reduceCtorEq, Nat.reduceSub, Nat.reduceAdd, List.nodup_cons, List.not_mem_nil, not_false_eq_true, and_self, and_true, true_and, decide_true, decide_false, List.take_succ_cons, List.take_zero, sizeLine_eq, Nat.zero_le, Nat.reduceLeDiff, Nat.reduceLT, Nat.reduceEqDiff, cp_bind, cp_pure, cp_bindS, cp_seqS, cp_nmO, cp_cO, cp_frzD, cp_frzO, cp_valO, cp_valD, cp_binX, cp_unX, cp_caX, cp_nilA, cp_consA, cp_nilD, cp_consD, cp_free_eq, cp_setS, cp_retS, cp_exprS, cp_ifS, cp_nxS, cp_retN, cp_mvX, cp_frD, cp_frO, cp_truO, cp_tstB, cp_andT, cp_orT, cp_notT, cp_notX, cp_andO, cp_orO, cp_ifE, cp_chX, cp_noO, cp_ptO, cp_slX, cp_tupX, cp_lstX, cp_dic0X, cp_itX, cp_enX, cp_rg1, cp_gN, cp_asgS, cp_forS, cp_loopS_cons, cp_callX, cp_appF, cp_mkX, cp_fldS, cp_attX, cp_raiseS1, cp_raiseS0, cp_tryS, cp_muX, cp_muN, cp_mtX, cp_hasOw_eq, cp_gSubD, cp_parS, cp_kwX, cp_yesT, cp_compX, cp_compL_cons, l8, lenD_str hz', ea1, ea2, take hn hn2, ← hp1, ← hs, take (show (0 : Int) < 8 by decide) (by decide), take (show (0 : Int) < 6 by decide) (by decide), e8, ht, slD_str hz', a1, a2, a3, a4, a5, e6, ks, upper_str hz']
  try rfl
/-- other letters, or none -/
def drawnIf : So := ifS (tstB (binX gtD (frzO (callX F57 [] (consA (nmO 0) (consA (cO (.int 3)) nilA)))) (cO (.int 0)))) (seqS (setS 2 (valO (cO (.str "")))) (forS (rg1 (frzO (binX addD (cO (.int 1)) (frzO (callX F57 [] (consA (nmO 0) (consA (cO (.int 10)) nilA))))))) (gN 3) (setS 2 (binX addD (nmO 2) (frzO (binX ixD (cO (.str "abcdefghijklmnopqrstuvwxyz")) (frzO (callX F57 [] (consA (nmO 0) (consA (cO (.int 26)) nilA)))))))))) nxS
theorem drawnIf_no {p : Int} {w : Str} (c : ¬ 0 < p % 3) : drawnIf [.ow true [.int p], .ow false ws13, .fz (.str w), .no, .no, .no, .no] = .nx [.ow true [.int (p / 3)], .ow false ws13, .fz (.str w), .no, .no, .no, .no] := by
  have t1 : gtD (.int (p % 3)) (.int 0) = some (.fz (.bl false)) := by
    show some (Sl.fz (.bl (decide ((0 : Int) < p % 3)))) = _
    rw [decide_eq_false c]
  unfold drawnIf
  simp only [bR_ok, bR_exc, bR_bad, kR_ok, bS_ok, bS_exc, bS_bad, nS_nx, nS_rt, nS_exc, nS_bk, nS_ct, nS_bad, gS_nx, lS_nx, lS_ct, lS_bk, lS_rt, lS_exc, fS_rt, fS_nx, fS_exc, hS_nx, hS_rt, hS_exc, pR_ok, pR_exc, oR_some, oR_none, cR_true, cR_false, xS_ok, con_vl, con_sl, conS_nil, conS_cons, loopS_nil, compL_nil, handle_nil, handle_cons, ap_bodyF, takeR_ok, takeR_exc, nmS, coS, vaS, vaA, vdS, vdA, mvS, frS, tsS, blO, ptS, muS, owB, gbS, gbD, flS, tkS, goneS, frz_fz, frz_ow, frz_oo, mine_no, mine_fz, mine_ow, mine_oo, owned_no, owned_fz, owned_ow, owned_oo, flag_no, flag_fz, flag_ow, flag_oo, give, back, argS, ownIx, wb, one, two, intS, blS, itemsD_lst, itemsD_tup, itemsD_scr, itemsD_str, enumD_lst, enumD_tup, numD_nil, numD_cons, truD_bl, truD_non, truD_int, truD_lst, truD_tup, attD, recOf, putFD, ap_gNilD, ap_gTupD, ap_gConsD, List.getElem?_cons_zero, List.getElem?_cons_succ, List.getElem?_nil, List.set_cons_zero, List.set_cons_succ, List.map_cons, List.map_nil, List.length_cons, List.length_nil, List.cons_append, List.nil_append, List.append_nil, List.replicate, List.getD_cons_zero, List.getD_cons_succ, List.getD_nil, List.nodup_nil, ite_true, ite_false, Bool.not_true, Bool.not_false, Bool.false_eq_true, reduceCtorEq, Nat.reduceSub, Nat.reduceAdd, List.nodup_cons, List.not_mem_nil, not_false_eq_true, and_self, and_true, true_and, decide_true, decide_false, List.take_succ_cons, List.take_zero, sizeLine_eq, Nat.zero_le, Nat.reduceLeDiff, Nat.reduceLT, Nat.reduceEqDiff, cp_bind, cp_pure, cp_bindS, cp_seqS, cp_nmO, cp_cO, cp_frzD, cp_frzO, cp_valO, cp_valD, cp_binX, cp_unX, cp_caX, cp_nilA, cp_consA, cp_nilD, cp_consD, cp_free_eq, cp_setS, cp_retS, cp_exprS, cp_ifS, cp_nxS, cp_retN, cp_mvX, cp_frD, cp_frO, cp_truO, cp_tstB, cp_andT, cp_orT, cp_notT, cp_notX, cp_andO, cp_orO, cp_ifE, cp_chX, cp_noO, cp_ptO, cp_slX, cp_tupX, cp_lstX, cp_dic0X, cp_itX, cp_enX, cp_rg1, cp_gN, cp_asgS, cp_forS, cp_loopS_cons, cp_callX, cp_appF, cp_mkX, cp_fldS, cp_attX, cp_raiseS1, cp_raiseS0, cp_tryS, cp_muX, cp_muN, cp_mtX, cp_hasOw_eq, cp_gSubD, cp_parS, cp_kwX, cp_yesT, cp_compX, cp_compL_cons, take (show (0 : Int) < 3 by decide) (by decide), t1]
theorem drawnRg {p : Int} {ρ : List Sl} {n : Nat} (hn : (n : Int) = 1 + p % 10) (hn' : n ≤ 20) : rg1 (frzO (binX addD (cO (.int 1)) (frzO (callX F57 [] (consA (nmO 0) (consA (cO (.int 10)) nilA)))))) (.ow true [.int p] :: ρ) = .ok (.ow true [.int (p / 10)] :: ρ) (rngD 0 n) := by
  have ea : addD (.int 1) (.int (p % 10)) = some (.fz (.int n)) := by
    rw [hn]; rfl
  have er := rgS_nat (ρ := .ow true [.int (p / 10)] :: ρ) (show n ≤ 1000000 by omega)
  simp only [bR_ok, bR_exc, bR_bad, kR_ok, bS_ok, bS_exc, bS_bad, nS_nx, nS_rt, nS_exc, nS_bk, nS_ct, nS_bad, gS_nx, lS_nx, lS_ct, lS_bk, lS_rt, lS_exc, fS_rt, fS_nx, fS_exc, hS_nx, hS_rt, hS_exc, pR_ok, pR_exc, oR_some, oR_none, cR_true, cR_false, xS_ok, con_vl, con_sl, conS_nil, conS_cons, loopS_nil, compL_nil, handle_nil, handle_cons, ap_bodyF, takeR_ok, takeR_exc, nmS, coS, vaS, vaA, vdS, vdA, mvS, frS, tsS, blO, ptS, muS, owB, gbS, gbD, flS, tkS, goneS, frz_fz, frz_ow, frz_oo, mine_no, mine_fz, mine_ow, mine_oo, owned_no, owned_fz, owned_ow, owned_oo, flag_no, flag_fz, flag_ow, flag_oo, give, back, argS, ownIx, wb, one, two, intS, blS, itemsD_lst, itemsD_tup, itemsD_scr, itemsD_str, enumD_lst, enumD_tup, numD_nil, numD_cons, truD_bl, truD_non, truD_int, truD_lst, truD_tup, attD, recOf, putFD, ap_gNilD, ap_gTupD, ap_gConsD, List.getElem?_cons_zero, List.getElem?_cons_succ, List.getElem?_nil, List.set_cons_zero, List.set_cons_succ, List.map_cons, List.map_nil, List.length_cons, List.length_nil, List.cons_append, List.nil_append, List.append_nil, List.replicate, List.getD_cons_zero, List.getD_cons_succ, List.getD_nil, List.nodup_nil, ite_true, ite_false, Bool.not_true, Bool.not_false, Bool.false_eq_true, reduceCtorEq, Nat.reduceSub, Nat.reduceAdd, List.nodup_cons, List.not_mem_nil, not_false_eq_true, and_self, and_true, true_and, decide_true, decide_false, List.take_succ_cons, List.take_zero, sizeLine_eq, Nat.zero_le, Nat.reduceLeDiff, Nat.reduceLT, Nat.reduceEqDiff, cp_bind, cp_pure, cp_bindS, cp_seqS, cp_nmO, cp_cO, cp_frzD, cp_frzO, cp_valO, cp_valD, cp_binX, cp_unX, cp_caX, cp_nilA, cp_consA, cp_nilD, cp_consD, cp_free_eq, cp_setS, cp_retS, cp_exprS, cp_ifS, cp_nxS, cp_retN, cp_mvX, cp_frD, cp_frO, cp_truO, cp_tstB, cp_andT, cp_orT, cp_notT, cp_notX, cp_andO, cp_orO, cp_ifE, cp_chX, cp_noO, cp_ptO, cp_slX, cp_tupX, cp_lstX, cp_dic0X, cp_itX, cp_enX, cp_rg1, cp_gN, cp_asgS, cp_forS, cp_loopS_cons, cp_callX, cp_appF, cp_mkX, cp_fldS, cp_attX, cp_raiseS1, cp_raiseS0, cp_tryS, cp_muX, cp_muN, cp_mtX, cp_hasOw_eq, cp_gSubD, cp_parS, cp_kwX, cp_yesT, cp_compX, cp_compL_cons, take (show (0 : Int) < 10 by decide) (by decide), ea]
  exact er
theorem drawnIf_yes {p : Int} {w : Str} (c : 0 < p % 3) : ∃ ρ', drawnIf [.ow true [.int p], .ow false ws13, .fz (.str w), .no, .no, .no, .no] = .nx ρ' ∧ LI 20 ρ' := by
  have t1 : gtD (.int (p % 3)) (.int 0) = some (.fz (.bl true)) := by
    show some (Sl.fz (.bl (decide ((0 : Int) < p % 3)))) = _
    rw [decide_eq_true c]
  obtain ⟨n, hn⟩ : ∃ n : Nat, (n : Int) = 1 + p / 3 % 10 := ⟨(1 + p / 3 % 10).toNat, by have := Int.emod_nonneg (p / 3) (show (10 : Int) ≠ 0 by decide); omega⟩
  have hn' : n ≤ 20 := by
    have := Int.emod_lt_of_pos (p / 3) (show (0 : Int) < 10 by decide)
    omega
  have er := fun ρ => drawnRg (ρ := ρ) hn hn'
  obtain ⟨ρ', el, p2, z2, t2, h1, hz2, ht2⟩ := letters (p := p / 3 / 10) (z := "") (n := n) (by decide) hn'
  refine ⟨ρ', ?_, p2, z2, t2, h1, by omega, ht2⟩
  unfold drawnIf
  rw [ap_ifS]
  have e1 : tstB (binX gtD (frzO (callX F57 [] (consA (nmO 0) (consA (cO (.int 3)) nilA)))) (cO (.int 0))) [.ow true [.int p], .ow false ws13, .fz (.str w), .no, .no, .no, .no] = .ok [.ow true [.int (p / 3)], .ow false ws13, .fz (.str w), .no, .no, .no, .no] true := by
    simp only [bR_ok, bR_exc, bR_bad, kR_ok, bS_ok, bS_exc, bS_bad, nS_nx, nS_rt, nS_exc, nS_bk, nS_ct, nS_bad, gS_nx, lS_nx, lS_ct, lS_bk, lS_rt, lS_exc, fS_rt, fS_nx, fS_exc, hS_nx, hS_rt, hS_exc, pR_ok, pR_exc, oR_some, oR_none, cR_true, cR_false, xS_ok, con_vl, con_sl, conS_nil, conS_cons, loopS_nil, compL_nil, handle_nil, handle_cons, ap_bodyF, takeR_ok, takeR_exc, nmS, coS, vaS, vaA, vdS, vdA, mvS, frS, tsS, blO, ptS, muS, owB, gbS, gbD, flS, tkS, goneS, frz_fz, frz_ow, frz_oo, mine_no, mine_fz, mine_ow, mine_oo, owned_no, owned_fz, owned_ow, owned_oo, flag_no, flag_fz, flag_ow, flag_oo, give, back, argS, ownIx, wb, one, two, intS, blS, itemsD_lst, itemsD_tup, itemsD_scr, itemsD_str, enumD_lst, enumD_tup, numD_nil, numD_cons, truD_bl, truD_non, truD_int, truD_lst, truD_tup, attD, recOf, putFD, ap_gNilD, ap_gTupD, ap_gConsD, List.getElem?_cons_zero, List.getElem?_cons_succ, List.getElem?_nil, List.set_cons_zero, List.set_cons_succ, List.map_cons, List.map_nil, List.length_cons, List.length_nil, List.cons_append, List.nil_append, List.append_nil, List.replicate, List.getD_cons_zero, List.getD_cons_succ, List.getD_nil, List.nodup_nil, ite_true, ite_false, Bool.not_true, Bool.not_false, Bool.false_eq_true, reduceCtorEq, Nat.reduceSub, Nat.reduceAdd, List.nodup_cons, List.not_mem_nil, not_false_eq_true, and_self, and_true, true_and, decide_true, decide_false, List.take_succ_cons, List.take_zero, sizeLine_eq, Nat.zero_le, Nat.reduceLeDiff, Nat.reduceLT, Nat.reduceEqDiff, cp_bind, cp_pure, cp_bindS, cp_seqS, cp_nmO, cp_cO, cp_frzD, cp_frzO, cp_valO, cp_valD, cp_binX, cp_unX, cp_caX, cp_nilA, cp_consA, cp_nilD, cp_consD, cp_free_eq, cp_setS, cp_retS, cp_exprS, cp_ifS, cp_nxS, cp_retN, cp_mvX, cp_frD, cp_frO, cp_truO, cp_tstB, cp_andT, cp_orT, cp_notT, cp_notX, cp_andO, cp_orO, cp_ifE, cp_chX, cp_noO, cp_ptO, cp_slX, cp_tupX, cp_lstX, cp_dic0X, cp_itX, cp_enX, cp_rg1, cp_gN, cp_asgS, cp_forS, cp_loopS_cons, cp_callX, cp_appF, cp_mkX, cp_fldS, cp_attX, cp_raiseS1, cp_raiseS0, cp_tryS, cp_muX, cp_muN, cp_mtX, cp_hasOw_eq, cp_gSubD, cp_parS, cp_kwX, cp_yesT, cp_compX, cp_compL_cons, take (show (0 : Int) < 3 by decide) (by decide), t1]
  rw [e1, bS_ok, cR_true, ap_seqS]
  have e2 : setS 2 (valO (cO (.str ""))) [.ow true [.int (p / 3)], .ow false ws13, .fz (.str w), .no, .no, .no, .no] = .nx [.ow true [.int (p / 3)], .ow false ws13, .fz (.str ""), .no, .no, .no, .no] := by kernel_rfl
  rw [e2, nS_nx, ap_forS, er, bS_ok]
  exact el
theorem drawn (m : Bool) (p : Int) : ∃ p' z', F60 [.ow m [.int p]] = .ok [.ow m [.int p']] (.fz (.str z')) ∧ z'.length ≤ 100 := by
  obtain ⟨d, hd, e13⟩ := ixList (xs := ws13) (n := 13) (i := p % 13) rfl (Int.emod_nonneg _ (by decide)) (Int.emod_lt_of_pos p (by decide))
  obtain ⟨w, rfl, hw⟩ := all13 d hd
  have key : ∃ p2 z2 t2, drawnIf [.ow true [.int (p / 13)], .ow false ws13, .fz (.str w), .no, .no, .no, .no] = .nx [.ow true [.int p2], .ow false ws13, .fz (.str z2), t2, .no, .no, .no] ∧ z2.length ≤ 20 ∧ t2.mine = false := by
    by_cases c : 0 < p / 13 % 3
    · obtain ⟨ρ', e, p2, z2, t2, rfl, h1, h2⟩ := drawnIf_yes (p := p / 13) (w := w) c
      exact ⟨p2, z2, t2, e, h1, h2⟩
    · exact ⟨_, _, _, drawnIf_no c, by omega, rfl⟩
  obtain ⟨p2, z2, t2, e2, hz2, ht2⟩ := key
  obtain ⟨ρ3, p3, z3, e3, h3⟩ := drawnEnd (p := p2) (z := z2) (t := t2) hz2 ht2
  refine ⟨p3, z3, ?_, h3⟩
  unfold drawnIf at e2
  unfold F60 g60
  simp only [bR_ok, bR_exc, bR_bad, kR_ok, bS_ok, bS_exc, bS_bad, nS_nx, nS_rt, nS_exc, nS_bk, nS_ct, nS_bad, gS_nx, lS_nx, lS_ct, lS_bk, lS_rt, lS_exc, fS_rt, fS_nx, fS_exc, hS_nx, hS_rt, hS_exc, pR_ok, pR_exc, oR_some, oR_none, cR_true, cR_false, xS_ok, con_vl, con_sl, conS_nil, conS_cons, loopS_nil, compL_nil, handle_nil, handle_cons, ap_bodyF, takeR_ok, takeR_exc, nmS, coS, vaS, vaA, vdS, vdA, mvS, frS, tsS, blO, ptS, muS, owB, gbS, gbD, flS, tkS, goneS, frz_fz, frz_ow, frz_oo, mine_no, mine_fz, mine_ow, mine_oo, owned_no, owned_fz, owned_ow, owned_oo, flag_no, flag_fz, flag_ow, flag_oo, give, back, argS, ownIx, wb, one, two, intS, blS, itemsD_lst, itemsD_tup, itemsD_scr, itemsD_str, enumD_lst, enumD_tup, numD_nil, numD_cons, truD_bl, truD_non, truD_int, truD_lst, truD_tup, attD, recOf, putFD, ap_gNilD, ap_gTupD, ap_gConsD, List.getElem?_cons_zero, List.getElem?_cons_succ, List.getElem?_nil, List.set_cons_zero, List.set_cons_succ, List.map_cons, List.map_nil, List.length_cons, List.length_nil, List.cons_append, List.nil_append, List.append_nil, List.replicate, List.getD_cons_zero, List.getD_cons_succ, List.getD_nil, List.nodup_nil, ite_true, ite_false, Bool.not_true, Bool.not_false, Bool.false_eq_true, reduceCtorEq, Nat.reduceSub, Nat.reduceAdd, List.nodup_cons, List.not_mem_nil, not_false_eq_true, and_self, and_true, true_and, decide_true, decide_false, List.take_succ_cons, List.take_zero, sizeLine_eq, Nat.zero_le, Nat.reduceLeDiff, Nat.reduceLT, Nat.reduceEqDiff, cp_bind, cp_pure, cp_bindS, cp_seqS, cp_nmO, cp_cO, cp_frzD, cp_frzO, cp_valO, cp_valD, cp_binX, cp_unX, cp_caX, cp_nilA, cp_consA, cp_nilD, cp_consD, cp_free_eq, cp_setS, cp_retS, cp_exprS, cp_ifS, cp_nxS, cp_retN, cp_mvX, cp_frD, cp_frO, cp_truO, cp_tstB, cp_andT, cp_orT, cp_notT, cp_notX, cp_andO, cp_orO, cp_ifE, cp_chX, cp_noO, cp_ptO, cp_slX, cp_tupX, cp_lstX, cp_dic0X, cp_itX, cp_enX, cp_rg1, cp_gN, cp_asgS, cp_forS, cp_loopS_cons, cp_callX, cp_appF, cp_mkX, cp_fldS, cp_attX, cp_raiseS1, cp_raiseS0, cp_tryS, cp_muX, cp_muN, cp_mtX, cp_hasOw_eq, cp_gSubD, cp_parS, cp_kwX, cp_yesT, cp_compX, cp_compL_cons, l13, take (show (0 : Int) < 13 by decide) (by decide), e13, ↓e2, ↓e3]
/-! ### the pool's first number -/
theorem mulD_ok {i j : Int} (hi : i.natAbs < 2 ^ 5000) (hj : j.natAbs < 2 ^ 5000) : mulD (.int i) (.int j) = some (.fz (.int (i * j))) := by
  have l : ∀ n : Nat, n < 2 ^ 5000 → n.log2 < 5000 := fun n h => by
    by_cases z : n = 0
    · subst z; decide
    · exact (Nat.log2_lt z).mpr h
  show (if decide (i.natAbs.log2 + j.natAbs.log2 < 1000000) = true then some (Sl.fz (.int (i * j))) else none) = _
  rw [if_pos (decide_eq_true (by have := l _ hi; have := l _ hj; omega))]
theorem modD_ok {i j : Int} (h : 0 < j) : modD (.int i) (.int j) = some (.fz (.int (i % j))) := by
  show (if decide (0 < j) = true then some (Sl.fz (.int (i % j))) else none) = _
  rw [if_pos (decide_eq_true h)]
theorem cutD_map (ns : List Int) (lo hi : Option Int) : L2.WD.cutD (ns.map D.int) lo hi = (L2.WD.cutD ns lo hi).map D.int := by
  unfold L2.WD.cutD
  rw [List.length_map, ← List.map_drop, ← List.map_take]
theorem small_lt {i : Int} (h : i.natAbs < 2 ^ 100) : i.natAbs < 2 ^ 5000 := Nat.lt_trans h (Nat.pow_lt_pow_right (by decide) (by decide))
theorem p100 : (2 : Nat) ^ 100 = 1267650600228229401496703205376 := by decide
theorem cellSum (ns : List Int) (k : Int) : ∃ c : Int, ∀ ρ, caX (one sumD) (consA (frzO (slX (nmO 0) (ptO (nmO 1)) (ptO (frzO (binX addD (nmO 1) (cO (.int 1))))))) nilA) (.fz (.scr ns) :: .fz (.int k) :: ρ) = .ok (.fz (.scr ns) :: .fz (.int k) :: ρ) (.fz (.int c)) := by
  refine ⟨(L2.WD.cutD ns (some k) (some (k + 1))).sum, fun ρ => ?_⟩
  have e1 : slD (some k) (some (k + 1)) (.scr ns) = some (.ow false ((L2.WD.cutD ns (some k) (some (k + 1))).map D.int)) := by
    rw [← cutD_map]; rfl
  have e2 : sumD (.lst ((L2.WD.cutD ns (some k) (some (k + 1))).map D.int)) = some (.fz (.int (L2.WD.cutD ns (some k) (some (k + 1))).sum)) := by
    show (intsD _).bind _ = _
    rw [intsD_map]
    rfl
  simp only [bR_ok, bR_exc, bR_bad, kR_ok, bS_ok, bS_exc, bS_bad, nS_nx, nS_rt, nS_exc, nS_bk, nS_ct, nS_bad, gS_nx, lS_nx, lS_ct, lS_bk, lS_rt, lS_exc, fS_rt, fS_nx, fS_exc, hS_nx, hS_rt, hS_exc, pR_ok, pR_exc, oR_some, oR_none, cR_true, cR_false, xS_ok, con_vl, con_sl, conS_nil, conS_cons, loopS_nil, compL_nil, handle_nil, handle_cons, ap_bodyF, takeR_ok, takeR_exc, nmS, coS, vaS, vaA, vdS, vdA, mvS, frS, tsS, blO, ptS, muS, owB, gbS, gbD, flS, tkS, goneS, frz_fz, frz_ow, frz_oo, mine_no, mine_fz, mine_ow, mine_oo, owned_no, owned_fz, owned_ow, owned_oo, flag_no, flag_fz, flag_ow, flag_oo, give, back, argS, ownIx, wb, one, two, intS, blS, itemsD_lst, itemsD_tup, itemsD_scr, itemsD_str, enumD_lst, enumD_tup, numD_nil, numD_cons, truD_bl, truD_non, truD_int, truD_lst, truD_tup, attD, recOf, putFD, ap_gNilD, ap_gTupD, ap_gConsD, List.getElem?_cons_zero, List.getElem?_cons_succ, List.getElem?_nil, List.set_cons_zero, List.set_cons_succ, List.map_cons, List.map_nil, List.length_cons, List.length_nil, List.cons_append, List.nil_append, List.append_nil, List.replicate, List.getD_cons_zero, List.getD_cons_succ, List.getD_nil, List.nodup_nil, ite_true, ite_false, Bool.not_true, Bool.not_false, Bool.false_eq_true, reduceCtorEq, Nat.reduceSub, Nat.reduceAdd, List.nodup_cons, List.not_mem_nil, not_false_eq_true, and_self, and_true, true_and, decide_true, decide_false, List.take_succ_cons, List.take_zero, sizeLine_eq, Nat.zero_le, Nat.reduceLeDiff, Nat.reduceLT, Nat.reduceEqDiff, cp_bind, cp_pure, cp_bindS, cp_seqS, cp_nmO, cp_cO, cp_frzD, cp_frzO, cp_valO, cp_valD, cp_binX, cp_unX, cp_caX, cp_nilA, cp_consA, cp_nilD, cp_consD, cp_free_eq, cp_setS, cp_retS, cp_exprS, cp_ifS, cp_nxS, cp_retN, cp_mvX, cp_frD, cp_frO, cp_truO, cp_tstB, cp_andT, cp_orT, cp_notT, cp_notX, cp_andO, cp_orO, cp_ifE, cp_chX, cp_noO, cp_ptO, cp_slX, cp_tupX, cp_lstX, cp_dic0X, cp_itX, cp_enX, cp_rg1, cp_gN, cp_asgS, cp_forS, cp_loopS_cons, cp_callX, cp_appF, cp_mkX, cp_fldS, cp_attX, cp_raiseS1, cp_raiseS0, cp_tryS, cp_muX, cp_muN, cp_mtX, cp_hasOw_eq, cp_gSubD, cp_parS, cp_kwX, cp_yesT, cp_compX, cp_compL_cons, ptS, addD_int, e1, e2]
theorem huge : ∃ M : Int, 0 < M ∧ ∀ ρ : List Sl, frzO (binX mulD (frzO (binX mulD (frzO (binX mulD (frzO (binX mulD (frzO (binX mulD (frzO (binX powD (cO (.int 10)) (cO (.int 64)))) (frzO (binX powD (cO (.int 10)) (cO (.int 64)))))) (frzO (binX powD (cO (.int 10)) (cO (.int 64)))))) (frzO (binX powD (cO (.int 10)) (cO (.int 64)))))) (frzO (binX powD (cO (.int 10)) (cO (.int 64)))))) (frzO (binX powD (cO (.int 10)) (cO (.int 64))))) ρ = .ok ρ (.vl (.int M)) :=
  ⟨10 ^ 384, by decide, fun _ => by kernel_rfl⟩
theorem p18 (ρ : List Sl) : frzO (binX powD (cO (.int 10)) (cO (.int 18))) ρ = .ok ρ (.vl (.int 1000000000000000000)) := by kernel_rfl
theorem p11 (ρ : List Sl) : frzO (binX powD (cO (.int 10)) (cO (.int 11))) ρ = .ok ρ (.vl (.int 100000000000)) := by kernel_rfl
theorem lt_eq {i j : Int} : ltD (.int i) (.int j) = some (.fz (.bl (decide (i < j)))) := rfl
theorem ge_eq {i j : Int} : geD (.int i) (.int j) = some (.fz (.bl (decide (j ≤ i)))) := rfl
/-- the turns' invariant -/
def PI (ns : List Int) (kk c : Int) (k : Nat) (ρ : List Sl) : Prop := ∃ (more found : Int) (t : Sl), ρ = [.fz (.scr ns), .fz (.int kk), .fz (.int c), .fz (.int more), .fz (.int found), t] ∧ t.mine = false ∧ 0 ≤ found ∧ found.natAbs < 2 ^ (40 * k)
def turnB : So := seqS (setS 3 (binX modD (frzO (binX addD (frzO (binX addD (frzO (binX mulD (frzO (binX modD (nmO 3) (cO (.int 999999999989)))) (cO (.int 69621)))) (frzO (binX mulD (cO (.int 40503)) (nmO 5))))) (cO (.int 271)))) (cO (.int 999999999989)))) (setS 4 (binX addD (frzO (binX mulD (nmO 4) (frzO (binX powD (cO (.int 10)) (cO (.int 11)))))) (frzO (binX modD (frzO (binX mulD (nmO 3) (frzO (binX addD (frzO (binX modD (nmO 3) (cO (.int 65537)))) (cO (.int 3)))))) (cO (.int 99999999977))))))
theorem turn_ok {ns : List Int} {kk c more found i : Int} (hi : 0 ≤ i ∧ i < 27) (hf : found.natAbs < 2 ^ 5000) : ∃ more' x : Int, turnB [.fz (.scr ns), .fz (.int kk), .fz (.int c), .fz (.int more), .fz (.int found), .fz (.int i)] = .nx [.fz (.scr ns), .fz (.int kk), .fz (.int c), .fz (.int more'), .fz (.int (found * 100000000000 + x)), .fz (.int i)] ∧ 0 ≤ x ∧ x < 99999999977 := by
  have a1 := Int.emod_nonneg more (show (999999999989 : Int) ≠ 0 by decide)
  have a2 := Int.emod_lt_of_pos more (show (0 : Int) < 999999999989 by decide)
  have m1 : mulD (.int (more % 999999999989)) (.int 69621) = some (.fz (.int (more % 999999999989 * 69621))) := mulD_ok (small_lt (by rw [p100]; omega)) (small_lt (by rw [p100]; decide))
  have m2 : mulD (.int 40503) (.int i) = some (.fz (.int (40503 * i))) := mulD_ok (small_lt (by rw [p100]; decide)) (small_lt (by rw [p100]; omega))
  obtain ⟨q, hq⟩ : ∃ q, q = (more % 999999999989 * 69621 + 40503 * i + 271) % 999999999989 := ⟨_, rfl⟩
  have b1 : 0 ≤ q := by rw [hq]; exact Int.emod_nonneg _ (by decide)
  have b2 : q < 999999999989 := by rw [hq]; exact Int.emod_lt_of_pos _ (by decide)
  have c1 := Int.emod_nonneg q (show (65537 : Int) ≠ 0 by decide)
  have c2 := Int.emod_lt_of_pos q (show (0 : Int) < 65537 by decide)
  have m3 : mulD (.int found) (.int 100000000000) = some (.fz (.int (found * 100000000000))) := mulD_ok hf (small_lt (by rw [p100]; decide))
  have m4 : mulD (.int q) (.int (q % 65537 + 3)) = some (.fz (.int (q * (q % 65537 + 3)))) := mulD_ok (small_lt (by rw [p100]; omega)) (small_lt (by rw [p100]; omega))
  refine ⟨q, q * (q % 65537 + 3) % 99999999977, ?_, Int.emod_nonneg _ (by decide), Int.emod_lt_of_pos _ (by decide)⟩
  unfold turnB
  simp only [bR_ok, bR_exc, bR_bad, kR_ok, bS_ok, bS_exc, bS_bad, nS_nx, nS_rt, nS_exc, nS_bk, nS_ct, nS_bad, gS_nx, lS_nx, lS_ct, lS_bk, lS_rt, lS_exc, fS_rt, fS_nx, fS_exc, hS_nx, hS_rt, hS_exc, pR_ok, pR_exc, oR_some, oR_none, cR_true, cR_false, xS_ok, con_vl, con_sl, conS_nil, conS_cons, loopS_nil, compL_nil, handle_nil, handle_cons, ap_bodyF, takeR_ok, takeR_exc, nmS, coS, vaS, vaA, vdS, vdA, mvS, frS, tsS, blO, ptS, muS, owB, gbS, gbD, flS, tkS, goneS, frz_fz, frz_ow, frz_oo, mine_no, mine_fz, mine_ow, mine_oo, owned_no, owned_fz, owned_ow, owned_oo, flag_no, flag_fz, flag_ow, flag_oo, give, back, argS, ownIx, wb, one, two, intS, blS, itemsD_lst, itemsD_tup, itemsD_scr, itemsD_str, enumD_lst, enumD_tup, numD_nil, numD_cons, truD_bl, truD_non, truD_int, truD_lst, truD_tup, attD, recOf, putFD, ap_gNilD, ap_gTupD, ap_gConsD, List.getElem?_cons_zero, List.getElem?_cons_succ, List.getElem?_nil, List.set_cons_zero, List.set_cons_succ, List.map_cons, List.map_nil, List.length_cons, List.length_nil, List.cons_append, List.nil_append, List.append_nil, List.replicate, List.getD_cons_zero, List.getD_cons_succ, List.getD_nil, List.nodup_nil, ite_true, ite_false, Bool.not_true, Bool.not_false, Bool.false_eq_true, reduceCtorEq, Nat.reduceSub, Nat.reduceAdd, List.nodup_cons, List.not_mem_nil, not_false_eq_true, and_self, and_true, true_and, decide_true, decide_false, List.take_succ_cons, List.take_zero, sizeLine_eq, Nat.zero_le, Nat.reduceLeDiff, Nat.reduceLT, Nat.reduceEqDiff, cp_bind, cp_pure, cp_bindS, cp_seqS, cp_nmO, cp_cO, cp_frzD, cp_frzO, cp_valO, cp_valD, cp_binX, cp_unX, cp_caX, cp_nilA, cp_consA, cp_nilD, cp_consD, cp_free_eq, cp_setS, cp_retS, cp_exprS, cp_ifS, cp_nxS, cp_retN, cp_mvX, cp_frD, cp_frO, cp_truO, cp_tstB, cp_andT, cp_orT, cp_notT, cp_notX, cp_andO, cp_orO, cp_ifE, cp_chX, cp_noO, cp_ptO, cp_slX, cp_tupX, cp_lstX, cp_dic0X, cp_itX, cp_enX, cp_rg1, cp_gN, cp_asgS, cp_forS, cp_loopS_cons, cp_callX, cp_appF, cp_mkX, cp_fldS, cp_attX, cp_raiseS1, cp_raiseS0, cp_tryS, cp_muX, cp_muN, cp_mtX, cp_hasOw_eq, cp_gSubD, cp_parS, cp_kwX, cp_yesT, cp_compX, cp_compL_cons, modD_ok (show (0 : Int) < 999999999989 by decide), m1, m2, addD_int, ← hq, ↓p11, m3, modD_ok (show (0 : Int) < 65537 by decide), m4, modD_ok (show (0 : Int) < 99999999977 by decide)]
theorem pw40 (k : Nat) : (2 : Nat) ^ (40 * (k + 1)) = 2 ^ (40 * k) * 1099511627776 := by
  rw [Nat.mul_add, Nat.pow_add]
theorem pool_ok (ns : List Int) (kk : Int) (hk : 0 ≤ kk ∧ kk < 100) : ∃ p : Int, F56 [.fz (.scr ns), .fz (.int kk)] = .ok [.fz (.scr ns), .fz (.int kk)] (.ow false [.int p]) := by
  obtain ⟨c, hc⟩ := cellSum ns kk
  obtain ⟨M, hM, eM⟩ := huge
  by_cases c1 : c < 0 ∨ 1000000000000000000 ≤ c
  · have t : orT (tstB (binX ltD (nmO 2) (cO (.int 0)))) (tstB (binX geD (nmO 2) (frzO (binX powD (cO (.int 10)) (cO (.int 18)))))) [.fz (.scr ns), .fz (.int kk), .fz (.int c), .no, .no, .no] = .ok [.fz (.scr ns), .fz (.int kk), .fz (.int c), .no, .no, .no] true := by
      by_cases c2 : c < 0
      · simp only [bR_ok, bR_exc, bR_bad, kR_ok, bS_ok, bS_exc, bS_bad, nS_nx, nS_rt, nS_exc, nS_bk, nS_ct, nS_bad, gS_nx, lS_nx, lS_ct, lS_bk, lS_rt, lS_exc, fS_rt, fS_nx, fS_exc, hS_nx, hS_rt, hS_exc, pR_ok, pR_exc, oR_some, oR_none, cR_true, cR_false, xS_ok, con_vl, con_sl, conS_nil, conS_cons, loopS_nil, compL_nil, handle_nil, handle_cons, ap_bodyF, takeR_ok, takeR_exc, nmS, coS, vaS, vaA, vdS, vdA, mvS, frS, tsS, blO, ptS, muS, owB, gbS, gbD, flS, tkS, goneS, frz_fz, frz_ow, frz_oo, mine_no, mine_fz, mine_ow, mine_oo, owned_no, owned_fz, owned_ow, owned_oo, flag_no, flag_fz, flag_ow, flag_oo, give, back, argS, ownIx, wb, one, two, intS, blS, itemsD_lst, itemsD_tup, itemsD_scr, itemsD_str, enumD_lst, enumD_tup, numD_nil, numD_cons, truD_bl, truD_non, truD_int, truD_lst, truD_tup, attD, recOf, putFD, ap_gNilD, ap_gTupD, ap_gConsD, List.getElem?_cons_zero, List.getElem?_cons_succ, List.getElem?_nil, List.set_cons_zero, List.set_cons_succ, List.map_cons, List.map_nil, List.length_cons, List.length_nil, List.cons_append, List.nil_append, List.append_nil, List.replicate, List.getD_cons_zero, List.getD_cons_succ, List.getD_nil, List.nodup_nil, ite_true, ite_false, Bool.not_true, Bool.not_false, Bool.false_eq_true, reduceCtorEq, Nat.reduceSub, Nat.reduceAdd, List.nodup_cons, List.not_mem_nil, not_false_eq_true, and_self, and_true, true_and, decide_true, decide_false, List.take_succ_cons, List.take_zero, sizeLine_eq, Nat.zero_le, Nat.reduceLeDiff, Nat.reduceLT, Nat.reduceEqDiff, cp_bind, cp_pure, cp_bindS, cp_seqS, cp_nmO, cp_cO, cp_frzD, cp_frzO, cp_valO, cp_valD, cp_binX, cp_unX, cp_caX, cp_nilA, cp_consA, cp_nilD, cp_consD, cp_free_eq, cp_setS, cp_retS, cp_exprS, cp_ifS, cp_nxS, cp_retN, cp_mvX, cp_frD, cp_frO, cp_truO, cp_tstB, cp_andT, cp_orT, cp_notT, cp_notX, cp_andO, cp_orO, cp_ifE, cp_chX, cp_noO, cp_ptO, cp_slX, cp_tupX, cp_lstX, cp_dic0X, cp_itX, cp_enX, cp_rg1, cp_gN, cp_asgS, cp_forS, cp_loopS_cons, cp_callX, cp_appF, cp_mkX, cp_fldS, cp_attX, cp_raiseS1, cp_raiseS0, cp_tryS, cp_muX, cp_muN, cp_mtX, cp_hasOw_eq, cp_gSubD, cp_parS, cp_kwX, cp_yesT, cp_compX, cp_compL_cons, lt_eq, decide_eq_true c2]
      · simp only [bR_ok, bR_exc, bR_bad, kR_ok, bS_ok, bS_exc, bS_bad, nS_nx, nS_rt, nS_exc, nS_bk, nS_ct, nS_bad, gS_nx, lS_nx, lS_ct, lS_bk, lS_rt, lS_exc, fS_rt, fS_nx, fS_exc, hS_nx, hS_rt, hS_exc, pR_ok, pR_exc, oR_some, oR_none, cR_true, cR_false, xS_ok, con_vl, con_sl, conS_nil, conS_cons, loopS_nil, compL_nil, handle_nil, handle_cons, ap_bodyF, takeR_ok, takeR_exc, nmS, coS, vaS, vaA, vdS, vdA, mvS, frS, tsS, blO, ptS, muS, owB, gbS, gbD, flS, tkS, goneS, frz_fz, frz_ow, frz_oo, mine_no, mine_fz, mine_ow, mine_oo, owned_no, owned_fz, owned_ow, owned_oo, flag_no, flag_fz, flag_ow, flag_oo, give, back, argS, ownIx, wb, one, two, intS, blS, itemsD_lst, itemsD_tup, itemsD_scr, itemsD_str, enumD_lst, enumD_tup, numD_nil, numD_cons, truD_bl, truD_non, truD_int, truD_lst, truD_tup, attD, recOf, putFD, ap_gNilD, ap_gTupD, ap_gConsD, List.getElem?_cons_zero, List.getElem?_cons_succ, List.getElem?_nil, List.set_cons_zero, List.set_cons_succ, List.map_cons, List.map_nil, List.length_cons, List.length_nil, List.cons_append, List.nil_append, List.append_nil, List.replicate, List.getD_cons_zero, List.getD_cons_succ, List.getD_nil, List.nodup_nil, ite_true, ite_false, Bool.not_true, Bool.not_false, Bool.false_eq_true, reduceCtorEq, Nat.reduceSub, Nat.reduceAdd, List.nodup_cons, List.not_mem_nil, not_false_eq_true, and_self, and_true, true_and, decide_true, decide_false, List.take_succ_cons, List.take_zero, sizeLine_eq, Nat.zero_le, Nat.reduceLeDiff, Nat.reduceLT, Nat.reduceEqDiff, cp_bind, cp_pure, cp_bindS, cp_seqS, cp_nmO, cp_cO, cp_frzD, cp_frzO, cp_valO, cp_valD, cp_binX, cp_unX, cp_caX, cp_nilA, cp_consA, cp_nilD, cp_consD, cp_free_eq, cp_setS, cp_retS, cp_exprS, cp_ifS, cp_nxS, cp_retN, cp_mvX, cp_frD, cp_frO, cp_truO, cp_tstB, cp_andT, cp_orT, cp_notT, cp_notX, cp_andO, cp_orO, cp_ifE, cp_chX, cp_noO, cp_ptO, cp_slX, cp_tupX, cp_lstX, cp_dic0X, cp_itX, cp_enX, cp_rg1, cp_gN, cp_asgS, cp_forS, cp_loopS_cons, cp_callX, cp_appF, cp_mkX, cp_fldS, cp_attX, cp_raiseS1, cp_raiseS0, cp_tryS, cp_muX, cp_muN, cp_mtX, cp_hasOw_eq, cp_gSubD, cp_parS, cp_kwX, cp_yesT, cp_compX, cp_compL_cons, lt_eq, decide_eq_false c2, ↓p18, ge_eq, decide_eq_true (show (1000000000000000000 : Int) ≤ c by omega)]
    have ab : absD (.int c) = some (.fz (.int (if c < 0 then -c else c))) := rfl
    refine ⟨(if c < 0 then -c else c) % M, ?_⟩
    unfold F56 g56
    simp only [bR_ok, bR_exc, bR_bad, kR_ok, bS_ok, bS_exc, bS_bad, nS_nx, nS_rt, nS_exc, nS_bk, nS_ct, nS_bad, gS_nx, lS_nx, lS_ct, lS_bk, lS_rt, lS_exc, fS_rt, fS_nx, fS_exc, hS_nx, hS_rt, hS_exc, pR_ok, pR_exc, oR_some, oR_none, cR_true, cR_false, xS_ok, con_vl, con_sl, conS_nil, conS_cons, loopS_nil, compL_nil, handle_nil, handle_cons, ap_bodyF, takeR_ok, takeR_exc, nmS, coS, vaS, vaA, vdS, vdA, mvS, frS, tsS, blO, ptS, muS, owB, gbS, gbD, flS, tkS, goneS, frz_fz, frz_ow, frz_oo, mine_no, mine_fz, mine_ow, mine_oo, owned_no, owned_fz, owned_ow, owned_oo, flag_no, flag_fz, flag_ow, flag_oo, give, back, argS, ownIx, wb, one, two, intS, blS, itemsD_lst, itemsD_tup, itemsD_scr, itemsD_str, enumD_lst, enumD_tup, numD_nil, numD_cons, truD_bl, truD_non, truD_int, truD_lst, truD_tup, attD, recOf, putFD, ap_gNilD, ap_gTupD, ap_gConsD, List.getElem?_cons_zero, List.getElem?_cons_succ, List.getElem?_nil, List.set_cons_zero, List.set_cons_succ, List.map_cons, List.map_nil, List.length_cons, List.length_nil, List.cons_append, List.nil_append, List.append_nil, List.replicate, List.getD_cons_zero, List.getD_cons_succ, List.getD_nil, List.nodup_nil, ite_true, ite_false, Bool.not_true, Bool.not_false, Bool.false_eq_true, reduceCtorEq, Nat.reduceSub, Nat.reduceAdd, List.nodup_cons, List.not_mem_nil, not_false_eq_true, and_self, and_true, true_and, decide_true, decide_false, List.take_succ_cons, List.take_zero, sizeLine_eq, Nat.zero_le, Nat.reduceLeDiff, Nat.reduceLT, Nat.reduceEqDiff, cp_bind, cp_pure, cp_bindS, cp_seqS, cp_nmO, cp_cO, cp_frzD, cp_frzO, cp_valO, cp_valD, cp_binX, cp_unX, cp_caX, cp_nilA, cp_consA, cp_nilD, cp_consD, cp_free_eq, cp_setS, cp_retS, cp_exprS, cp_ifS, cp_nxS, cp_retN, cp_mvX, cp_frD, cp_frO, cp_truO, cp_tstB, cp_andT, cp_orT, cp_notT, cp_notX, cp_andO, cp_orO, cp_ifE, cp_chX, cp_noO, cp_ptO, cp_slX, cp_tupX, cp_lstX, cp_dic0X, cp_itX, cp_enX, cp_rg1, cp_gN, cp_asgS, cp_forS, cp_loopS_cons, cp_callX, cp_appF, cp_mkX, cp_fldS, cp_attX, cp_raiseS1, cp_raiseS0, cp_tryS, cp_muX, cp_muN, cp_mtX, cp_hasOw_eq, cp_gSubD, cp_parS, cp_kwX, cp_yesT, cp_compX, cp_compL_cons, ↓hc, ↓t, ab, ↓eM, modD_ok hM]
  · have t : orT (tstB (binX ltD (nmO 2) (cO (.int 0)))) (tstB (binX geD (nmO 2) (frzO (binX powD (cO (.int 10)) (cO (.int 18)))))) [.fz (.scr ns), .fz (.int kk), .fz (.int c), .no, .no, .no] = .ok [.fz (.scr ns), .fz (.int kk), .fz (.int c), .no, .no, .no] false := by
      simp only [bR_ok, bR_exc, bR_bad, kR_ok, bS_ok, bS_exc, bS_bad, nS_nx, nS_rt, nS_exc, nS_bk, nS_ct, nS_bad, gS_nx, lS_nx, lS_ct, lS_bk, lS_rt, lS_exc, fS_rt, fS_nx, fS_exc, hS_nx, hS_rt, hS_exc, pR_ok, pR_exc, oR_some, oR_none, cR_true, cR_false, xS_ok, con_vl, con_sl, conS_nil, conS_cons, loopS_nil, compL_nil, handle_nil, handle_cons, ap_bodyF, takeR_ok, takeR_exc, nmS, coS, vaS, vaA, vdS, vdA, mvS, frS, tsS, blO, ptS, muS, owB, gbS, gbD, flS, tkS, goneS, frz_fz, frz_ow, frz_oo, mine_no, mine_fz, mine_ow, mine_oo, owned_no, owned_fz, owned_ow, owned_oo, flag_no, flag_fz, flag_ow, flag_oo, give, back, argS, ownIx, wb, one, two, intS, blS, itemsD_lst, itemsD_tup, itemsD_scr, itemsD_str, enumD_lst, enumD_tup, numD_nil, numD_cons, truD_bl, truD_non, truD_int, truD_lst, truD_tup, attD, recOf, putFD, ap_gNilD, ap_gTupD, ap_gConsD, List.getElem?_cons_zero, List.getElem?_cons_succ, List.getElem?_nil, List.set_cons_zero, List.set_cons_succ, List.map_cons, List.map_nil, List.length_cons, List.length_nil, List.cons_append, List.nil_append, List.append_nil, List.replicate, List.getD_cons_zero, List.getD_cons_succ, List.getD_nil, List.nodup_nil, ite_true, ite_false, Bool.not_true, Bool.not_false, Bool.false_eq_true, reduceCtorEq, Nat.reduceSub, Nat.reduceAdd, List.nodup_cons, List.not_mem_nil, not_false_eq_true, and_self, and_true, true_and, decide_true, decide_false, List.take_succ_cons, List.take_zero, sizeLine_eq, Nat.zero_le, Nat.reduceLeDiff, Nat.reduceLT, Nat.reduceEqDiff, cp_bind, cp_pure, cp_bindS, cp_seqS, cp_nmO, cp_cO, cp_frzD, cp_frzO, cp_valO, cp_valD, cp_binX, cp_unX, cp_caX, cp_nilA, cp_consA, cp_nilD, cp_consD, cp_free_eq, cp_setS, cp_retS, cp_exprS, cp_ifS, cp_nxS, cp_retN, cp_mvX, cp_frD, cp_frO, cp_truO, cp_tstB, cp_andT, cp_orT, cp_notT, cp_notX, cp_andO, cp_orO, cp_ifE, cp_chX, cp_noO, cp_ptO, cp_slX, cp_tupX, cp_lstX, cp_dic0X, cp_itX, cp_enX, cp_rg1, cp_gN, cp_asgS, cp_forS, cp_loopS_cons, cp_callX, cp_appF, cp_mkX, cp_fldS, cp_attX, cp_raiseS1, cp_raiseS0, cp_tryS, cp_muX, cp_muN, cp_mtX, cp_hasOw_eq, cp_gSubD, cp_parS, cp_kwX, cp_yesT, cp_compX, cp_compL_cons, lt_eq, decide_eq_false (show ¬ c < 0 by omega), ↓p18, ge_eq, decide_eq_false (show ¬ (1000000000000000000 : Int) ≤ c by omega)]
    have m1 : mulD (.int c) (.int 48271) = some (.fz (.int (c * 48271))) := mulD_ok (small_lt (by rw [p100]; omega)) (small_lt (by rw [p100]; decide))
    have m2 : mulD (.int 977) (.int kk) = some (.fz (.int (977 * kk))) := mulD_ok (small_lt (by rw [p100]; decide)) (small_lt (by rw [p100]; omega))
    have m3 : mulD (.int (977 * kk)) (.int kk) = some (.fz (.int (977 * kk * kk))) := mulD_ok (small_lt (by rw [p100]; omega)) (small_lt (by rw [p100]; omega))
    obtain ⟨ρ', el, more, found, tt, h1, h2, h3, h4⟩ := loopS_inv (t := gN 5) (body := turnB) (PI ns kk c) (rngD 0 27) 0 [.fz (.scr ns), .fz (.int kk), .fz (.int c), .fz (.int (c * 48271 + 977 * kk * kk + 13)), .fz (.int 0), .no] ⟨_, _, _, rfl, rfl, by decide, by decide⟩ (fun j d ρ hj hi => by
      obtain ⟨more, found, t, rfl, ht, f0, f1⟩ := hi
      have hj' : j < 27 := by
        have := (List.getElem?_eq_some_iff.mp hj).1
        rw [rngD_length] at this
        omega
      obtain ⟨i, rfl, i0, i1⟩ := mem_rngD (List.mem_of_getElem? hj)
      obtain ⟨more', x, e, x0, x1⟩ := turn_ok (ns := ns) (kk := kk) (c := c) (more := more) (found := found) (i := i) ⟨i0, i1⟩ (Nat.lt_of_lt_of_le f1 (Nat.pow_le_pow_right (by decide) (by omega)))
      refine ⟨[.fz (.scr ns), .fz (.int kk), .fz (.int c), .fz (.int more), .fz (.int found), .fz (.int i)], _, ?_, .inl e, _, _, _, rfl, rfl, by omega, ?_⟩
      · simp only [bR_ok, bR_exc, bR_bad, kR_ok, bS_ok, bS_exc, bS_bad, nS_nx, nS_rt, nS_exc, nS_bk, nS_ct, nS_bad, gS_nx, lS_nx, lS_ct, lS_bk, lS_rt, lS_exc, fS_rt, fS_nx, fS_exc, hS_nx, hS_rt, hS_exc, pR_ok, pR_exc, oR_some, oR_none, cR_true, cR_false, xS_ok, con_vl, con_sl, conS_nil, conS_cons, loopS_nil, compL_nil, handle_nil, handle_cons, ap_bodyF, takeR_ok, takeR_exc, nmS, coS, vaS, vaA, vdS, vdA, mvS, frS, tsS, blO, ptS, muS, owB, gbS, gbD, flS, tkS, goneS, frz_fz, frz_ow, frz_oo, mine_no, mine_fz, mine_ow, mine_oo, owned_no, owned_fz, owned_ow, owned_oo, flag_no, flag_fz, flag_ow, flag_oo, give, back, argS, ownIx, wb, one, two, intS, blS, itemsD_lst, itemsD_tup, itemsD_scr, itemsD_str, enumD_lst, enumD_tup, numD_nil, numD_cons, truD_bl, truD_non, truD_int, truD_lst, truD_tup, attD, recOf, putFD, ap_gNilD, ap_gTupD, ap_gConsD, List.getElem?_cons_zero, List.getElem?_cons_succ, List.getElem?_nil, List.set_cons_zero, List.set_cons_succ, List.map_cons, List.map_nil, List.length_cons, List.length_nil, List.cons_append, List.nil_append, List.append_nil, List.replicate, List.getD_cons_zero, List.getD_cons_succ, List.getD_nil, List.nodup_nil, ite_true, ite_false, Bool.not_true, Bool.not_false, Bool.false_eq_true, reduceCtorEq, Nat.reduceSub, Nat.reduceAdd, List.nodup_cons, List.not_mem_nil, not_false_eq_true, and_self, and_true, true_and, decide_true, decide_false, List.take_succ_cons, List.take_zero, sizeLine_eq, Nat.zero_le, Nat.reduceLeDiff, Nat.reduceLT, Nat.reduceEqDiff, cp_bind, cp_pure, cp_bindS, cp_seqS, cp_nmO, cp_cO, cp_frzD, cp_frzO, cp_valO, cp_valD, cp_binX, cp_unX, cp_caX, cp_nilA, cp_consA, cp_nilD, cp_consD, cp_free_eq, cp_setS, cp_retS, cp_exprS, cp_ifS, cp_nxS, cp_retN, cp_mvX, cp_frD, cp_frO, cp_truO, cp_tstB, cp_andT, cp_orT, cp_notT, cp_notX, cp_andO, cp_orO, cp_ifE, cp_chX, cp_noO, cp_ptO, cp_slX, cp_tupX, cp_lstX, cp_dic0X, cp_itX, cp_enX, cp_rg1, cp_gN, cp_asgS, cp_forS, cp_loopS_cons, cp_callX, cp_appF, cp_mkX, cp_fldS, cp_attX, cp_raiseS1, cp_raiseS0, cp_tryS, cp_muX, cp_muN, cp_mtX, cp_hasOw_eq, cp_gSubD, cp_parS, cp_kwX, cp_yesT, cp_compX, cp_compL_cons, ht]
      · rw [pw40]
        generalize 2 ^ (40 * (0 + j)) = Q at f1
        omega)
    refine ⟨found, ?_⟩
    have er : ∀ ρ, rgS ρ (.int 27) = .ok ρ (rngD 0 27) := fun ρ => rgS_nat (ρ := ρ) (n := 27) (by decide)
    subst h1
    unfold turnB at el
    unfold F56 g56
    simp only [bR_ok, bR_exc, bR_bad, kR_ok, bS_ok, bS_exc, bS_bad, nS_nx, nS_rt, nS_exc, nS_bk, nS_ct, nS_bad, gS_nx, lS_nx, lS_ct, lS_bk, lS_rt, lS_exc, fS_rt, fS_nx, fS_exc, hS_nx, hS_rt, hS_exc, pR_ok, pR_exc, oR_some, oR_none, cR_true, cR_false, xS_ok, con_vl, con_sl, conS_nil, conS_cons, loopS_nil, compL_nil, handle_nil, handle_cons, ap_bodyF, takeR_ok, takeR_exc, nmS, coS, vaS, vaA, vdS, vdA, mvS, frS, tsS, blO, ptS, muS, owB, gbS, gbD, flS, tkS, goneS, frz_fz, frz_ow, frz_oo, mine_no, mine_fz, mine_ow, mine_oo, owned_no, owned_fz, owned_ow, owned_oo, flag_no, flag_fz, flag_ow, flag_oo, give, back, argS, ownIx, wb, one, two, intS, blS, itemsD_lst, itemsD_tup, itemsD_scr, itemsD_str, enumD_lst, enumD_tup, numD_nil, numD_cons, truD_bl, truD_non, truD_int, truD_lst, truD_tup, attD, recOf, putFD, ap_gNilD, ap_gTupD, ap_gConsD, List.getElem?_cons_zero, List.getElem?_cons_succ, List.getElem?_nil, List.set_cons_zero, List.set_cons_succ, List.map_cons, List.map_nil, List.length_cons, List.length_nil, List.cons_append, List.nil_append, List.append_nil, List.replicate, List.getD_cons_zero, List.getD_cons_succ, List.getD_nil, List.nodup_nil, ite_true, ite_false, Bool.not_true, Bool.not_false, Bool.false_eq_true, reduceCtorEq, Nat.reduceSub, Nat.reduceAdd, List.nodup_cons, List.not_mem_nil, not_false_eq_true, and_self, and_true, true_and, decide_true, decide_false, List.take_succ_cons, List.take_zero, sizeLine_eq, Nat.zero_le, Nat.reduceLeDiff, Nat.reduceLT, Nat.reduceEqDiff, cp_bind, cp_pure, cp_bindS, cp_seqS, cp_nmO, cp_cO, cp_frzD, cp_frzO, cp_valO, cp_valD, cp_binX, cp_unX, cp_caX, cp_nilA, cp_consA, cp_nilD, cp_consD, cp_free_eq, cp_setS, cp_retS, cp_exprS, cp_ifS, cp_nxS, cp_retN, cp_mvX, cp_frD, cp_frO, cp_truO, cp_tstB, cp_andT, cp_orT, cp_notT, cp_notX, cp_andO, cp_orO, cp_ifE, cp_chX, cp_noO, cp_ptO, cp_slX, cp_tupX, cp_lstX, cp_dic0X, cp_itX, cp_enX, cp_rg1, cp_gN, cp_asgS, cp_forS, cp_loopS_cons, cp_callX, cp_appF, cp_mkX, cp_fldS, cp_attX, cp_raiseS1, cp_raiseS0, cp_tryS, cp_muX, cp_muN, cp_mtX, cp_hasOw_eq, cp_gSubD, cp_parS, cp_kwX, cp_yesT, cp_compX, cp_compL_cons, ↓hc, ↓t, m1, m2, m3, addD_int, ↓er, ↓el]
    try rfl
/-! ### the law -/
def things : List D := [.non, .int 0, .int 1, .bl true, .str "", .str " ", .tup [.str "ann"], .lst [.str "ann"], .dic [], .tup [.lst []], .lst [.lst [.str "ann"]], .str "ann ", .str "Ann", .str "a\nb", .tup [], .str "abcdefghi"]
theorem told_things : ∀ d ∈ things, ∃ b, Told d b := by
  intro d h
  simp only [things, List.mem_cons, List.not_mem_nil, or_false] at h
  rcases h with rfl | rfl | rfl | rfl | rfl | rfl | rfl | rfl | rfl | rfl | rfl | rfl | rfl | rfl | rfl | rfl
  · exact ⟨false, by kernel_rfl, by kernel_rfl⟩
  · exact ⟨false, by kernel_rfl, by kernel_rfl⟩
  · exact ⟨false, by kernel_rfl, by kernel_rfl⟩
  · exact ⟨false, by kernel_rfl, by kernel_rfl⟩
  · exact ⟨_, told_str _ (by decide)⟩
  · exact ⟨_, told_str _ (by decide)⟩
  · exact ⟨false, by kernel_rfl, by kernel_rfl⟩
  · exact ⟨false, by kernel_rfl, by kernel_rfl⟩
  · exact ⟨false, by kernel_rfl, by kernel_rfl⟩
  · exact ⟨false, by kernel_rfl, by kernel_rfl⟩
  · exact ⟨false, by kernel_rfl, by kernel_rfl⟩
  · exact ⟨_, told_str _ (by decide)⟩
  · exact ⟨_, told_str _ (by decide)⟩
  · exact ⟨_, told_str _ (by decide)⟩
  · exact ⟨false, by kernel_rfl, by kernel_rfl⟩
  · exact ⟨_, told_str _ (by decide)⟩
/-- one thing is asked -/
def oddB : So := seqS (parS 7 8 (consD (frzD (callX F18 [] (consA (nmO 6) nilA))) (consD (frzD (callX F59 [] (consA (nmO 6) nilA))) nilD))) (seqS (ifS (orT (notT (truO (frzO (caX isiF (consA (nmO 7) (consA (cO (.ty "bool")) nilA)))))) (tstB (binX (eqD true) (nmO 7) (nmO 8)))) (retS (valO (cO (.bl false)))) nxS) (ifS (andT (notT (truO (nmO 8))) (tstB (binX (eqD true) (frzO (compX [9] (itX (frzD (lstX (consD (valD (cO (.int 1))) (consD (valD (cO (.int 2))) nilD))))) (gN 9) yesT (frzD (callX F61 [] (consA (nmO 9) (consA (nmO 6) nilA)))))) (frzO (lstX (consD (frzD (tupX (consD (valD (cO (.str "story"))) (consD (valD (cO (.int 0))) nilD)))) (consD (frzD (tupX (consD (valD (cO (.str "people"))) (consD (valD (cO (.int 0))) nilD)))) nilD))))))) (retS (valO (cO (.bl false)))) nxS))
theorem odd_ok {s0 s1 s2 s3 s4 s5 s7 s8 : Sl} {d : D} {b : Bool} (h : Told d b) (h7 : s7.mine = false) (h8 : s8.mine = false) : oddB [s0, s1, s2, s3, s4, s5, .fz d, s7, s8, .no] = .nx [s0, s1, s2, s3, s4, s5, .fz d, .fz (.bl b), .fz (.bl b), .no] := by
  have e1 : parS 7 8 (consD (frzD (callX F18 [] (consA (nmO 6) nilA))) (consD (frzD (callX F59 [] (consA (nmO 6) nilA))) nilD)) [s0, s1, s2, s3, s4, s5, .fz d, s7, s8, .no] = .nx [s0, s1, s2, s3, s4, s5, .fz d, .fz (.bl b), .fz (.bl b), .no] := by
    simp only [bR_ok, bR_exc, bR_bad, kR_ok, bS_ok, bS_exc, bS_bad, nS_nx, nS_rt, nS_exc, nS_bk, nS_ct, nS_bad, gS_nx, lS_nx, lS_ct, lS_bk, lS_rt, lS_exc, fS_rt, fS_nx, fS_exc, hS_nx, hS_rt, hS_exc, pR_ok, pR_exc, oR_some, oR_none, cR_true, cR_false, xS_ok, con_vl, con_sl, conS_nil, conS_cons, loopS_nil, compL_nil, handle_nil, handle_cons, ap_bodyF, takeR_ok, takeR_exc, nmS, coS, vaS, vaA, vdS, vdA, mvS, frS, tsS, blO, ptS, muS, owB, gbS, gbD, flS, tkS, goneS, frz_fz, frz_ow, frz_oo, mine_no, mine_fz, mine_ow, mine_oo, owned_no, owned_fz, owned_ow, owned_oo, flag_no, flag_fz, flag_ow, flag_oo, give, back, argS, ownIx, wb, one, two, intS, blS, itemsD_lst, itemsD_tup, itemsD_scr, itemsD_str, enumD_lst, enumD_tup, numD_nil, numD_cons, truD_bl, truD_non, truD_int, truD_lst, truD_tup, attD, recOf, putFD, ap_gNilD, ap_gTupD, ap_gConsD, List.getElem?_cons_zero, List.getElem?_cons_succ, List.getElem?_nil, List.set_cons_zero, List.set_cons_succ, List.map_cons, List.map_nil, List.length_cons, List.length_nil, List.cons_append, List.nil_append, List.append_nil, List.replicate, List.getD_cons_zero, List.getD_cons_succ, List.getD_nil, List.nodup_nil, ite_true, ite_false, Bool.not_true, Bool.not_false, Bool.false_eq_true, reduceCtorEq, Nat.reduceSub, Nat.reduceAdd, List.nodup_cons, List.not_mem_nil, not_false_eq_true, and_self, and_true, true_and, decide_true, decide_false, List.take_succ_cons, List.take_zero, sizeLine_eq, Nat.zero_le, Nat.reduceLeDiff, Nat.reduceLT, Nat.reduceEqDiff, cp_bind, cp_pure, cp_bindS, cp_seqS, cp_nmO, cp_cO, cp_frzD, cp_frzO, cp_valO, cp_valD, cp_binX, cp_unX, cp_caX, cp_nilA, cp_consA, cp_nilD, cp_consD, cp_free_eq, cp_setS, cp_retS, cp_exprS, cp_ifS, cp_nxS, cp_retN, cp_mvX, cp_frD, cp_frO, cp_truO, cp_tstB, cp_andT, cp_orT, cp_notT, cp_notX, cp_andO, cp_orO, cp_ifE, cp_chX, cp_noO, cp_ptO, cp_slX, cp_tupX, cp_lstX, cp_dic0X, cp_itX, cp_enX, cp_rg1, cp_gN, cp_asgS, cp_forS, cp_loopS_cons, cp_callX, cp_appF, cp_mkX, cp_fldS, cp_attX, cp_raiseS1, cp_raiseS0, cp_tryS, cp_muX, cp_muN, cp_mtX, cp_hasOw_eq, cp_gSubD, cp_parS, cp_kwX, cp_yesT, cp_compX, cp_compL_cons, h.1, h.2, free2, h7, h8, Bool.and_self]
  have e2 : (orT (notT (truO (frzO (caX isiF (consA (nmO 7) (consA (cO (.ty "bool")) nilA)))))) (tstB (binX (eqD true) (nmO 7) (nmO 8)))) [s0, s1, s2, s3, s4, s5, .fz d, .fz (.bl b), .fz (.bl b), .no] = .ok [s0, s1, s2, s3, s4, s5, .fz d, .fz (.bl b), .fz (.bl b), .no] false := by
    cases b <;> kernel_rfl
  unfold oddB
  cases b with
  | true => simp only [↓e1, ↓e2, bR_ok, bR_exc, bR_bad, kR_ok, bS_ok, bS_exc, bS_bad, nS_nx, nS_rt, nS_exc, nS_bk, nS_ct, nS_bad, gS_nx, lS_nx, lS_ct, lS_bk, lS_rt, lS_exc, fS_rt, fS_nx, fS_exc, hS_nx, hS_rt, hS_exc, pR_ok, pR_exc, oR_some, oR_none, cR_true, cR_false, xS_ok, con_vl, con_sl, conS_nil, conS_cons, loopS_nil, compL_nil, handle_nil, handle_cons, ap_bodyF, takeR_ok, takeR_exc, nmS, coS, vaS, vaA, vdS, vdA, mvS, frS, tsS, blO, ptS, muS, owB, gbS, gbD, flS, tkS, goneS, frz_fz, frz_ow, frz_oo, mine_no, mine_fz, mine_ow, mine_oo, owned_no, owned_fz, owned_ow, owned_oo, flag_no, flag_fz, flag_ow, flag_oo, give, back, argS, ownIx, wb, one, two, intS, blS, itemsD_lst, itemsD_tup, itemsD_scr, itemsD_str, enumD_lst, enumD_tup, numD_nil, numD_cons, truD_bl, truD_non, truD_int, truD_lst, truD_tup, attD, recOf, putFD, ap_gNilD, ap_gTupD, ap_gConsD, List.getElem?_cons_zero, List.getElem?_cons_succ, List.getElem?_nil, List.set_cons_zero, List.set_cons_succ, List.map_cons, List.map_nil, List.length_cons, List.length_nil, List.cons_append, List.nil_append, List.append_nil, List.replicate, List.getD_cons_zero, List.getD_cons_succ, List.getD_nil, List.nodup_nil, ite_true, ite_false, Bool.not_true, Bool.not_false, Bool.false_eq_true, reduceCtorEq, Nat.reduceSub, Nat.reduceAdd, List.nodup_cons, List.not_mem_nil, not_false_eq_true, and_self, and_true, true_and, decide_true, decide_false, List.take_succ_cons, List.take_zero, sizeLine_eq, Nat.zero_le, Nat.reduceLeDiff, Nat.reduceLT, Nat.reduceEqDiff, cp_bind, cp_pure, cp_bindS, cp_seqS, cp_nmO, cp_cO, cp_frzD, cp_frzO, cp_valO, cp_valD, cp_binX, cp_unX, cp_caX, cp_nilA, cp_consA, cp_nilD, cp_consD, cp_free_eq, cp_setS, cp_retS, cp_exprS, cp_ifS, cp_nxS, cp_retN, cp_mvX, cp_frD, cp_frO, cp_truO, cp_tstB, cp_andT, cp_orT, cp_notT, cp_notX, cp_andO, cp_orO, cp_ifE, cp_chX, cp_noO, cp_ptO, cp_slX, cp_tupX, cp_lstX, cp_dic0X, cp_itX, cp_enX, cp_rg1, cp_gN, cp_asgS, cp_forS, cp_loopS_cons, cp_callX, cp_appF, cp_mkX, cp_fldS, cp_attX, cp_raiseS1, cp_raiseS0, cp_tryS, cp_muX, cp_muN, cp_mtX, cp_hasOw_eq, cp_gSubD, cp_parS, cp_kwX, cp_yesT, cp_compX, cp_compL_cons]
  | false =>
    have hf := h.1
    have r1 := ref1 hf
    have r2 := ref2 hf
    have e3 : compX [9] (itX (frzD (lstX (consD (valD (cO (.int 1))) (consD (valD (cO (.int 2))) nilD))))) (gN 9) yesT (frzD (callX F61 [] (consA (nmO 9) (consA (nmO 6) nilA)))) [s0, s1, s2, s3, s4, s5, .fz d, .fz (.bl false), .fz (.bl false), .no] = .ok [s0, s1, s2, s3, s4, s5, .fz d, .fz (.bl false), .fz (.bl false), .no] (.ow false [.tup [.str "story", .int 0], .tup [.str "people", .int 0]]) := by
      refine compX_map (ds := [.int 1, .int 2]) (fun x => match x with | .int 1 => .tup [.str "story", .int 0] | _ => .tup [.str "people", .int 0]) (by kernel_rfl) (by decide) rfl fun x hx => ?_
      simp only [List.mem_cons, List.not_mem_nil, or_false] at hx
      rcases hx with rfl | rfl
      · refine ⟨[s0, s1, s2, s3, s4, s5, .fz d, .fz (.bl false), .fz (.bl false), .fz (.int 1)], [s0, s1, s2, s3, s4, s5, .fz d, .fz (.bl false), .fz (.bl false), .fz (.int 1)], rfl, ?_, rfl⟩
        simp only [bR_ok, bR_exc, bR_bad, kR_ok, bS_ok, bS_exc, bS_bad, nS_nx, nS_rt, nS_exc, nS_bk, nS_ct, nS_bad, gS_nx, lS_nx, lS_ct, lS_bk, lS_rt, lS_exc, fS_rt, fS_nx, fS_exc, hS_nx, hS_rt, hS_exc, pR_ok, pR_exc, oR_some, oR_none, cR_true, cR_false, xS_ok, con_vl, con_sl, conS_nil, conS_cons, loopS_nil, compL_nil, handle_nil, handle_cons, ap_bodyF, takeR_ok, takeR_exc, nmS, coS, vaS, vaA, vdS, vdA, mvS, frS, tsS, blO, ptS, muS, owB, gbS, gbD, flS, tkS, goneS, frz_fz, frz_ow, frz_oo, mine_no, mine_fz, mine_ow, mine_oo, owned_no, owned_fz, owned_ow, owned_oo, flag_no, flag_fz, flag_ow, flag_oo, give, back, argS, ownIx, wb, one, two, intS, blS, itemsD_lst, itemsD_tup, itemsD_scr, itemsD_str, enumD_lst, enumD_tup, numD_nil, numD_cons, truD_bl, truD_non, truD_int, truD_lst, truD_tup, attD, recOf, putFD, ap_gNilD, ap_gTupD, ap_gConsD, List.getElem?_cons_zero, List.getElem?_cons_succ, List.getElem?_nil, List.set_cons_zero, List.set_cons_succ, List.map_cons, List.map_nil, List.length_cons, List.length_nil, List.cons_append, List.nil_append, List.append_nil, List.replicate, List.getD_cons_zero, List.getD_cons_succ, List.getD_nil, List.nodup_nil, ite_true, ite_false, Bool.not_true, Bool.not_false, Bool.false_eq_true, reduceCtorEq, Nat.reduceSub, Nat.reduceAdd, List.nodup_cons, List.not_mem_nil, not_false_eq_true, and_self, and_true, true_and, decide_true, decide_false, List.take_succ_cons, List.take_zero, sizeLine_eq, Nat.zero_le, Nat.reduceLeDiff, Nat.reduceLT, Nat.reduceEqDiff, cp_bind, cp_pure, cp_bindS, cp_seqS, cp_nmO, cp_cO, cp_frzD, cp_frzO, cp_valO, cp_valD, cp_binX, cp_unX, cp_caX, cp_nilA, cp_consA, cp_nilD, cp_consD, cp_free_eq, cp_setS, cp_retS, cp_exprS, cp_ifS, cp_nxS, cp_retN, cp_mvX, cp_frD, cp_frO, cp_truO, cp_tstB, cp_andT, cp_orT, cp_notT, cp_notX, cp_andO, cp_orO, cp_ifE, cp_chX, cp_noO, cp_ptO, cp_slX, cp_tupX, cp_lstX, cp_dic0X, cp_itX, cp_enX, cp_rg1, cp_gN, cp_asgS, cp_forS, cp_loopS_cons, cp_callX, cp_appF, cp_mkX, cp_fldS, cp_attX, cp_raiseS1, cp_raiseS0, cp_tryS, cp_muX, cp_muN, cp_mtX, cp_hasOw_eq, cp_gSubD, cp_parS, cp_kwX, cp_yesT, cp_compX, cp_compL_cons, r1]
      · refine ⟨[s0, s1, s2, s3, s4, s5, .fz d, .fz (.bl false), .fz (.bl false), .fz (.int 2)], [s0, s1, s2, s3, s4, s5, .fz d, .fz (.bl false), .fz (.bl false), .fz (.int 2)], rfl, ?_, rfl⟩
        simp only [bR_ok, bR_exc, bR_bad, kR_ok, bS_ok, bS_exc, bS_bad, nS_nx, nS_rt, nS_exc, nS_bk, nS_ct, nS_bad, gS_nx, lS_nx, lS_ct, lS_bk, lS_rt, lS_exc, fS_rt, fS_nx, fS_exc, hS_nx, hS_rt, hS_exc, pR_ok, pR_exc, oR_some, oR_none, cR_true, cR_false, xS_ok, con_vl, con_sl, conS_nil, conS_cons, loopS_nil, compL_nil, handle_nil, handle_cons, ap_bodyF, takeR_ok, takeR_exc, nmS, coS, vaS, vaA, vdS, vdA, mvS, frS, tsS, blO, ptS, muS, owB, gbS, gbD, flS, tkS, goneS, frz_fz, frz_ow, frz_oo, mine_no, mine_fz, mine_ow, mine_oo, owned_no, owned_fz, owned_ow, owned_oo, flag_no, flag_fz, flag_ow, flag_oo, give, back, argS, ownIx, wb, one, two, intS, blS, itemsD_lst, itemsD_tup, itemsD_scr, itemsD_str, enumD_lst, enumD_tup, numD_nil, numD_cons, truD_bl, truD_non, truD_int, truD_lst, truD_tup, attD, recOf, putFD, ap_gNilD, ap_gTupD, ap_gConsD, List.getElem?_cons_zero, List.getElem?_cons_succ, List.getElem?_nil, List.set_cons_zero, List.set_cons_succ, List.map_cons, List.map_nil, List.length_cons, List.length_nil, List.cons_append, List.nil_append, List.append_nil, List.replicate, List.getD_cons_zero, List.getD_cons_succ, List.getD_nil, List.nodup_nil, ite_true, ite_false, Bool.not_true, Bool.not_false, Bool.false_eq_true, reduceCtorEq, Nat.reduceSub, Nat.reduceAdd, List.nodup_cons, List.not_mem_nil, not_false_eq_true, and_self, and_true, true_and, decide_true, decide_false, List.take_succ_cons, List.take_zero, sizeLine_eq, Nat.zero_le, Nat.reduceLeDiff, Nat.reduceLT, Nat.reduceEqDiff, cp_bind, cp_pure, cp_bindS, cp_seqS, cp_nmO, cp_cO, cp_frzD, cp_frzO, cp_valO, cp_valD, cp_binX, cp_unX, cp_caX, cp_nilA, cp_consA, cp_nilD, cp_consD, cp_free_eq, cp_setS, cp_retS, cp_exprS, cp_ifS, cp_nxS, cp_retN, cp_mvX, cp_frD, cp_frO, cp_truO, cp_tstB, cp_andT, cp_orT, cp_notT, cp_notX, cp_andO, cp_orO, cp_ifE, cp_chX, cp_noO, cp_ptO, cp_slX, cp_tupX, cp_lstX, cp_dic0X, cp_itX, cp_enX, cp_rg1, cp_gN, cp_asgS, cp_forS, cp_loopS_cons, cp_callX, cp_appF, cp_mkX, cp_fldS, cp_attX, cp_raiseS1, cp_raiseS0, cp_tryS, cp_muX, cp_muN, cp_mtX, cp_hasOw_eq, cp_gSubD, cp_parS, cp_kwX, cp_yesT, cp_compX, cp_compL_cons, r2]
    have e4 : frzO (lstX (consD (frzD (tupX (consD (valD (cO (.str "story"))) (consD (valD (cO (.int 0))) nilD)))) (consD (frzD (tupX (consD (valD (cO (.str "people"))) (consD (valD (cO (.int 0))) nilD)))) nilD))) [s0, s1, s2, s3, s4, s5, .fz d, .fz (.bl false), .fz (.bl false), .no] = .ok [s0, s1, s2, s3, s4, s5, .fz d, .fz (.bl false), .fz (.bl false), .no] (.vl (.lst [.tup [.str "story", .int 0], .tup [.str "people", .int 0]])) := by kernel_rfl
    have e5 : eqD true (.lst [.tup [.str "story", .int 0], .tup [.str "people", .int 0]]) (.lst [.tup [.str "story", .int 0], .tup [.str "people", .int 0]]) = some (.fz (.bl false)) := by kernel_rfl
    simp only [↓e1, ↓e2, ↓e3, ↓e4, e5, bR_ok, bR_exc, bR_bad, kR_ok, bS_ok, bS_exc, bS_bad, nS_nx, nS_rt, nS_exc, nS_bk, nS_ct, nS_bad, gS_nx, lS_nx, lS_ct, lS_bk, lS_rt, lS_exc, fS_rt, fS_nx, fS_exc, hS_nx, hS_rt, hS_exc, pR_ok, pR_exc, oR_some, oR_none, cR_true, cR_false, xS_ok, con_vl, con_sl, conS_nil, conS_cons, loopS_nil, compL_nil, handle_nil, handle_cons, ap_bodyF, takeR_ok, takeR_exc, nmS, coS, vaS, vaA, vdS, vdA, mvS, frS, tsS, blO, ptS, muS, owB, gbS, gbD, flS, tkS, goneS, frz_fz, frz_ow, frz_oo, mine_no, mine_fz, mine_ow, mine_oo, owned_no, owned_fz, owned_ow, owned_oo, flag_no, flag_fz, flag_ow, flag_oo, give, back, argS, ownIx, wb, one, two, intS, blS, itemsD_lst, itemsD_tup, itemsD_scr, itemsD_str, enumD_lst, enumD_tup, numD_nil, numD_cons, truD_bl, truD_non, truD_int, truD_lst, truD_tup, attD, recOf, putFD, ap_gNilD, ap_gTupD, ap_gConsD, List.getElem?_cons_zero, List.getElem?_cons_succ, List.getElem?_nil, List.set_cons_zero, List.set_cons_succ, List.map_cons, List.map_nil, List.length_cons, List.length_nil, List.cons_append, List.nil_append, List.append_nil, List.replicate, List.getD_cons_zero, List.getD_cons_succ, List.getD_nil, List.nodup_nil, ite_true, ite_false, Bool.not_true, Bool.not_false, Bool.false_eq_true, reduceCtorEq, Nat.reduceSub, Nat.reduceAdd, List.nodup_cons, List.not_mem_nil, not_false_eq_true, and_self, and_true, true_and, decide_true, decide_false, List.take_succ_cons, List.take_zero, sizeLine_eq, Nat.zero_le, Nat.reduceLeDiff, Nat.reduceLT, Nat.reduceEqDiff, cp_bind, cp_pure, cp_bindS, cp_seqS, cp_nmO, cp_cO, cp_frzD, cp_frzO, cp_valO, cp_valD, cp_binX, cp_unX, cp_caX, cp_nilA, cp_consA, cp_nilD, cp_consD, cp_free_eq, cp_setS, cp_retS, cp_exprS, cp_ifS, cp_nxS, cp_retN, cp_mvX, cp_frD, cp_frO, cp_truO, cp_tstB, cp_andT, cp_orT, cp_notT, cp_notX, cp_andO, cp_orO, cp_ifE, cp_chX, cp_noO, cp_ptO, cp_slX, cp_tupX, cp_lstX, cp_dic0X, cp_itX, cp_enX, cp_rg1, cp_gN, cp_asgS, cp_forS, cp_loopS_cons, cp_callX, cp_appF, cp_mkX, cp_fldS, cp_attX, cp_raiseS1, cp_raiseS0, cp_tryS, cp_muX, cp_muN, cp_mtX, cp_hasOw_eq, cp_gSubD, cp_parS, cp_kwX, cp_yesT, cp_compX, cp_compL_cons]
def OI (s0 s1 s2 s3 s4 s5 : Sl) (_ : Nat) (ρ : List Sl) : Prop := ∃ s6 s7 s8 : Sl, ρ = [s0, s1, s2, s3, s4, s5, s6, s7, s8, .no] ∧ s6.mine = false ∧ s7.mine = false ∧ s8.mine = false
theorem odds_ok {s0 s1 s2 s3 s4 s5 s6 s7 s8 : Sl} {ds : List D} (h : ∀ d ∈ ds, ∃ b, Told d b) (h6 : s6.mine = false) (h7 : s7.mine = false) (h8 : s8.mine = false) :
    ∃ s6' s7' s8' : Sl, loopS (gN 6) oddB ds [s0, s1, s2, s3, s4, s5, s6, s7, s8, .no] = .nx [s0, s1, s2, s3, s4, s5, s6', s7', s8', .no] ∧ s6'.mine = false ∧ s7'.mine = false ∧ s8'.mine = false := by
  obtain ⟨ρ', e, a, b, c, rfl, q⟩ := loopS_inv (t := gN 6) (body := oddB) (OI s0 s1 s2 s3 s4 s5) ds 0 [s0, s1, s2, s3, s4, s5, s6, s7, s8, .no] ⟨_, _, _, rfl, h6, h7, h8⟩ fun j d ρ hj hi => by
    obtain ⟨s6, s7, s8, rfl, h6, h7, h8⟩ := hi
    obtain ⟨b, hb⟩ := h d (List.mem_of_getElem? hj)
    refine ⟨[s0, s1, s2, s3, s4, s5, .fz d, s7, s8, .no], _, ?_, .inl (odd_ok hb h7 h8), _, _, _, rfl, rfl, rfl, rfl⟩
    simp only [bR_ok, bR_exc, bR_bad, kR_ok, bS_ok, bS_exc, bS_bad, nS_nx, nS_rt, nS_exc, nS_bk, nS_ct, nS_bad, gS_nx, lS_nx, lS_ct, lS_bk, lS_rt, lS_exc, fS_rt, fS_nx, fS_exc, hS_nx, hS_rt, hS_exc, pR_ok, pR_exc, oR_some, oR_none, cR_true, cR_false, xS_ok, con_vl, con_sl, conS_nil, conS_cons, loopS_nil, compL_nil, handle_nil, handle_cons, ap_bodyF, takeR_ok, takeR_exc, nmS, coS, vaS, vaA, vdS, vdA, mvS, frS, tsS, blO, ptS, muS, owB, gbS, gbD, flS, tkS, goneS, frz_fz, frz_ow, frz_oo, mine_no, mine_fz, mine_ow, mine_oo, owned_no, owned_fz, owned_ow, owned_oo, flag_no, flag_fz, flag_ow, flag_oo, give, back, argS, ownIx, wb, one, two, intS, blS, itemsD_lst, itemsD_tup, itemsD_scr, itemsD_str, enumD_lst, enumD_tup, numD_nil, numD_cons, truD_bl, truD_non, truD_int, truD_lst, truD_tup, attD, recOf, putFD, ap_gNilD, ap_gTupD, ap_gConsD, List.getElem?_cons_zero, List.getElem?_cons_succ, List.getElem?_nil, List.set_cons_zero, List.set_cons_succ, List.map_cons, List.map_nil, List.length_cons, List.length_nil, List.cons_append, List.nil_append, List.append_nil, List.replicate, List.getD_cons_zero, List.getD_cons_succ, List.getD_nil, List.nodup_nil, ite_true, ite_false, Bool.not_true, Bool.not_false, Bool.false_eq_true, reduceCtorEq, Nat.reduceSub, Nat.reduceAdd, List.nodup_cons, List.not_mem_nil, not_false_eq_true, and_self, and_true, true_and, decide_true, decide_false, List.take_succ_cons, List.take_zero, sizeLine_eq, Nat.zero_le, Nat.reduceLeDiff, Nat.reduceLT, Nat.reduceEqDiff, cp_bind, cp_pure, cp_bindS, cp_seqS, cp_nmO, cp_cO, cp_frzD, cp_frzO, cp_valO, cp_valD, cp_binX, cp_unX, cp_caX, cp_nilA, cp_consA, cp_nilD, cp_consD, cp_free_eq, cp_setS, cp_retS, cp_exprS, cp_ifS, cp_nxS, cp_retN, cp_mvX, cp_frD, cp_frO, cp_truO, cp_tstB, cp_andT, cp_orT, cp_notT, cp_notX, cp_andO, cp_orO, cp_ifE, cp_chX, cp_noO, cp_ptO, cp_slX, cp_tupX, cp_lstX, cp_dic0X, cp_itX, cp_enX, cp_rg1, cp_gN, cp_asgS, cp_forS, cp_loopS_cons, cp_callX, cp_appF, cp_mkX, cp_fldS, cp_attX, cp_raiseS1, cp_raiseS0, cp_tryS, cp_muX, cp_muN, cp_mtX, cp_hasOw_eq, cp_gSubD, cp_parS, cp_kwX, cp_yesT, cp_compX, cp_compL_cons, h6]
  exact ⟨a, b, c, e, q⟩
def kB : So := seqS (setS 3 (callX F56 [] (consA (nmO 0) (consA (nmO 2) nilA)))) (seqS (setS 4 (compX [5] (rg1 (cO (.int 6))) (gN 5) yesT (frzD (callX F60 [] (consA (nmO 3) nilA))))) (seqS (forS (itX (frzD (binX addD (nmO 4) (nmO 1)))) (gN 6) oddB) (ifS (orT (tstB (binX (eqD true) (frzO (callX F61 [] (consA (cO (.int 0)) (consA (frzO (binX ixD (nmO 4) (cO (.int 0)))) nilA)))) (frzO (tupX (consD (valD (cO (.str "sum"))) (consD (frzD (binX subD (cO (.int 0)) (cO (.int 1)))) nilD)))))) (notT (truO (frzO (kwX F18 [0] [] nilA (consA (cO (.str "abcdefgh")) nilA)))))) (retS (valO (cO (.bl false)))) nxS)))
theorem madeComp {ns : List Int} {s2 s4 s6 s7 s8 : Sl} {p : Int} : ∃ (p' : Int) (ys : List D), compX [5] (rg1 (cO (.int 6))) (gN 5) yesT (frzD (callX F60 [] (consA (nmO 3) nilA))) [.fz (.scr ns), .ow false things, s2, .ow false [.int p], s4, .no, s6, s7, s8, .no] = .ok [.fz (.scr ns), .ow false things, s2, .ow false [.int p'], s4, .no, s6, s7, s8, .no] (.ow false ys) ∧ ys.length = 6 ∧ ∀ y ∈ ys, isS 100 y := by
  have er : ∀ ρ, rgS ρ (.int 6) = .ok ρ (rngD 0 6) := fun ρ => rgS_nat (ρ := ρ) (n := 6) (by decide)
  obtain ⟨ρ', ys, e, ⟨p', rfl⟩, hl, hy⟩ := compX_inv (own := [5]) (t := gN 5) (el := frzD (callX F60 [] (consA (nmO 3) nilA))) (f := rg1 (cO (.int 6))) (ds := rngD 0 6) (ρ := [.fz (.scr ns), .ow false things, s2, .ow false [.int p], s4, .no, s6, s7, s8, .no])
    (fun ρ => ∃ p', ρ = [.fz (.scr ns), .ow false things, s2, .ow false [.int p'], s4, .no, s6, s7, s8, .no]) (isS 100) (by simp only [bR_ok, bR_exc, bR_bad, kR_ok, bS_ok, bS_exc, bS_bad, nS_nx, nS_rt, nS_exc, nS_bk, nS_ct, nS_bad, gS_nx, lS_nx, lS_ct, lS_bk, lS_rt, lS_exc, fS_rt, fS_nx, fS_exc, hS_nx, hS_rt, hS_exc, pR_ok, pR_exc, oR_some, oR_none, cR_true, cR_false, xS_ok, con_vl, con_sl, conS_nil, conS_cons, loopS_nil, compL_nil, handle_nil, handle_cons, ap_bodyF, takeR_ok, takeR_exc, nmS, coS, vaS, vaA, vdS, vdA, mvS, frS, tsS, blO, ptS, muS, owB, gbS, gbD, flS, tkS, goneS, frz_fz, frz_ow, frz_oo, mine_no, mine_fz, mine_ow, mine_oo, owned_no, owned_fz, owned_ow, owned_oo, flag_no, flag_fz, flag_ow, flag_oo, give, back, argS, ownIx, wb, one, two, intS, blS, itemsD_lst, itemsD_tup, itemsD_scr, itemsD_str, enumD_lst, enumD_tup, numD_nil, numD_cons, truD_bl, truD_non, truD_int, truD_lst, truD_tup, attD, recOf, putFD, ap_gNilD, ap_gTupD, ap_gConsD, List.getElem?_cons_zero, List.getElem?_cons_succ, List.getElem?_nil, List.set_cons_zero, List.set_cons_succ, List.map_cons, List.map_nil, List.length_cons, List.length_nil, List.cons_append, List.nil_append, List.append_nil, List.replicate, List.getD_cons_zero, List.getD_cons_succ, List.getD_nil, List.nodup_nil, ite_true, ite_false, Bool.not_true, Bool.not_false, Bool.false_eq_true, reduceCtorEq, Nat.reduceSub, Nat.reduceAdd, List.nodup_cons, List.not_mem_nil, not_false_eq_true, and_self, and_true, true_and, decide_true, decide_false, List.take_succ_cons, List.take_zero, sizeLine_eq, Nat.zero_le, Nat.reduceLeDiff, Nat.reduceLT, Nat.reduceEqDiff, cp_bind, cp_pure, cp_bindS, cp_seqS, cp_nmO, cp_cO, cp_frzD, cp_frzO, cp_valO, cp_valD, cp_binX, cp_unX, cp_caX, cp_nilA, cp_consA, cp_nilD, cp_consD, cp_free_eq, cp_setS, cp_retS, cp_exprS, cp_ifS, cp_nxS, cp_retN, cp_mvX, cp_frD, cp_frO, cp_truO, cp_tstB, cp_andT, cp_orT, cp_notT, cp_notX, cp_andO, cp_orO, cp_ifE, cp_chX, cp_noO, cp_ptO, cp_slX, cp_tupX, cp_lstX, cp_dic0X, cp_itX, cp_enX, cp_rg1, cp_gN, cp_asgS, cp_forS, cp_loopS_cons, cp_callX, cp_appF, cp_mkX, cp_fldS, cp_attX, cp_raiseS1, cp_raiseS0, cp_tryS, cp_muX, cp_muN, cp_mtX, cp_hasOw_eq, cp_gSubD, cp_parS, cp_kwX, cp_yesT, cp_compX, cp_compL_cons, er]) (by decide) rfl ⟨p, rfl⟩ (fun d hd ρ hi => by
      obtain ⟨p, rfl⟩ := hi
      obtain ⟨p', z, e, hz⟩ := drawn false p
      refine ⟨[.fz (.scr ns), .ow false things, s2, .ow false [.int p], s4, .fz d, s6, s7, s8, .no], [.fz (.scr ns), .ow false things, s2, .ow false [.int p'], s4, .fz d, s6, s7, s8, .no], .str z, rfl, ?_, ⟨p', rfl⟩, z, rfl, hz⟩
      simp only [bR_ok, bR_exc, bR_bad, kR_ok, bS_ok, bS_exc, bS_bad, nS_nx, nS_rt, nS_exc, nS_bk, nS_ct, nS_bad, gS_nx, lS_nx, lS_ct, lS_bk, lS_rt, lS_exc, fS_rt, fS_nx, fS_exc, hS_nx, hS_rt, hS_exc, pR_ok, pR_exc, oR_some, oR_none, cR_true, cR_false, xS_ok, con_vl, con_sl, conS_nil, conS_cons, loopS_nil, compL_nil, handle_nil, handle_cons, ap_bodyF, takeR_ok, takeR_exc, nmS, coS, vaS, vaA, vdS, vdA, mvS, frS, tsS, blO, ptS, muS, owB, gbS, gbD, flS, tkS, goneS, frz_fz, frz_ow, frz_oo, mine_no, mine_fz, mine_ow, mine_oo, owned_no, owned_fz, owned_ow, owned_oo, flag_no, flag_fz, flag_ow, flag_oo, give, back, argS, ownIx, wb, one, two, intS, blS, itemsD_lst, itemsD_tup, itemsD_scr, itemsD_str, enumD_lst, enumD_tup, numD_nil, numD_cons, truD_bl, truD_non, truD_int, truD_lst, truD_tup, attD, recOf, putFD, ap_gNilD, ap_gTupD, ap_gConsD, List.getElem?_cons_zero, List.getElem?_cons_succ, List.getElem?_nil, List.set_cons_zero, List.set_cons_succ, List.map_cons, List.map_nil, List.length_cons, List.length_nil, List.cons_append, List.nil_append, List.append_nil, List.replicate, List.getD_cons_zero, List.getD_cons_succ, List.getD_nil, List.nodup_nil, ite_true, ite_false, Bool.not_true, Bool.not_false, Bool.false_eq_true, reduceCtorEq, Nat.reduceSub, Nat.reduceAdd, List.nodup_cons, List.not_mem_nil, not_false_eq_true, and_self, and_true, true_and, decide_true, decide_false, List.take_succ_cons, List.take_zero, sizeLine_eq, Nat.zero_le, Nat.reduceLeDiff, Nat.reduceLT, Nat.reduceEqDiff, cp_bind, cp_pure, cp_bindS, cp_seqS, cp_nmO, cp_cO, cp_frzD, cp_frzO, cp_valO, cp_valD, cp_binX, cp_unX, cp_caX, cp_nilA, cp_consA, cp_nilD, cp_consD, cp_free_eq, cp_setS, cp_retS, cp_exprS, cp_ifS, cp_nxS, cp_retN, cp_mvX, cp_frD, cp_frO, cp_truO, cp_tstB, cp_andT, cp_orT, cp_notT, cp_notX, cp_andO, cp_orO, cp_ifE, cp_chX, cp_noO, cp_ptO, cp_slX, cp_tupX, cp_lstX, cp_dic0X, cp_itX, cp_enX, cp_rg1, cp_gN, cp_asgS, cp_forS, cp_loopS_cons, cp_callX, cp_appF, cp_mkX, cp_fldS, cp_attX, cp_raiseS1, cp_raiseS0, cp_tryS, cp_muX, cp_muN, cp_mtX, cp_hasOw_eq, cp_gSubD, cp_parS, cp_kwX, cp_yesT, cp_compX, cp_compL_cons, e])
  exact ⟨p', ys, e, hl, hy⟩
def KI (ns : List Int) (_ : Nat) (ρ : List Sl) : Prop := ∃ s2 s3 s4 s6 s7 s8 : Sl, ρ = [.fz (.scr ns), .ow false things, s2, s3, s4, .no, s6, s7, s8, .no] ∧ s2.mine = false ∧ s3.mine = false ∧ s4.mine = false ∧ s6.mine = false ∧ s7.mine = false ∧ s8.mine = false
theorem k_ok {ns : List Int} {k : Int} {s3 s4 s6 s7 s8 : Sl} (hk : 0 ≤ k ∧ k < 100) (h3 : s3.mine = false) (h4 : s4.mine = false) (h6 : s6.mine = false) (h7 : s7.mine = false) (h8 : s8.mine = false) :
    ∃ s3' s4' s6' s7' s8' : Sl, kB [.fz (.scr ns), .ow false things, .fz (.int k), s3, s4, .no, s6, s7, s8, .no] = .nx [.fz (.scr ns), .ow false things, .fz (.int k), s3', s4', .no, s6', s7', s8', .no] ∧ s3'.mine = false ∧ s4'.mine = false ∧ s6'.mine = false ∧ s7'.mine = false ∧ s8'.mine = false := by
  obtain ⟨p, e1⟩ := pool_ok ns k hk
  obtain ⟨p2, ys, e2, hl, hy⟩ := madeComp (ns := ns) (s2 := .fz (.int k)) (s4 := s4) (s6 := s6) (s7 := s7) (s8 := s8) (p := p)
  have e3 : addD (.lst ys) (.lst things) = some (.ow false (ys ++ things)) := by
    show (if ys.length + things.length ≤ sizeLine then some (Sl.ow false (ys ++ things)) else none) = _
    rw [hl, if_pos (by decide)]
  obtain ⟨a, b, c, e4, ha, hb, hc⟩ := odds_ok (s0 := .fz (.scr ns)) (s1 := .ow false things) (s2 := .fz (.int k)) (s3 := .ow false [.int p2]) (s4 := .ow false ys) (s5 := .no) (ds := ys ++ things) (fun d hd => by
    rcases List.mem_append.mp hd with h | h
    · obtain ⟨w, rfl, hw⟩ := hy d h
      exact ⟨_, told_str w (by omega)⟩
    · exact told_things d h) h6 h7 h8
  obtain ⟨y, hy1, e5⟩ := ixList (xs := ys) (n := 6) (i := 0) hl (by decide) (by decide)
  have e6 : eqD true (.tup [.str "sum", .int (-1)]) (.tup [.str "sum", .int (-1)]) = some (.fz (.bl false)) := by kernel_rfl
  have e7 : ∀ ρ, (notT (truO (frzO (kwX F18 [0] [] nilA (consA (cO (.str "abcdefgh")) nilA))))) ρ = .ok ρ false := fun ρ => by kernel_rfl
  have e8 : ∀ ρ, frzO (tupX (consD (valD (cO (.str "sum"))) (consD (frzD (binX subD (cO (.int 0)) (cO (.int 1)))) nilD))) ρ = .ok ρ (.vl (.tup [.str "sum", .int (-1)])) := fun ρ => by kernel_rfl
  have e9 := parted_neg y
  refine ⟨.ow false [.int p2], .ow false ys, a, b, c, ?_, rfl, rfl, ha, hb, hc⟩
  unfold kB
  simp only [bR_ok, bR_exc, bR_bad, kR_ok, bS_ok, bS_exc, bS_bad, nS_nx, nS_rt, nS_exc, nS_bk, nS_ct, nS_bad, gS_nx, lS_nx, lS_ct, lS_bk, lS_rt, lS_exc, fS_rt, fS_nx, fS_exc, hS_nx, hS_rt, hS_exc, pR_ok, pR_exc, oR_some, oR_none, cR_true, cR_false, xS_ok, con_vl, con_sl, conS_nil, conS_cons, loopS_nil, compL_nil, handle_nil, handle_cons, ap_bodyF, takeR_ok, takeR_exc, nmS, coS, vaS, vaA, vdS, vdA, mvS, frS, tsS, blO, ptS, muS, owB, gbS, gbD, flS, tkS, goneS, frz_fz, frz_ow, frz_oo, mine_no, mine_fz, mine_ow, mine_oo, owned_no, owned_fz, owned_ow, owned_oo, flag_no, flag_fz, flag_ow, flag_oo, give, back, argS, ownIx, wb, one, two, intS, blS, itemsD_lst, itemsD_tup, itemsD_scr, itemsD_str, enumD_lst, enumD_tup, numD_nil, numD_cons, truD_bl, truD_non, truD_int, truD_lst, truD_tup, attD, recOf, putFD, ap_gNilD, ap_gTupD, ap_gConsD, List.getElem?_cons_zero, List.getElem?_cons_succ, List.getElem?_nil, List.set_cons_zero, List.set_cons_succ, List.map_cons, List.map_nil, List.length_cons, List.length_nil, List.cons_append, List.nil_append, List.append_nil, List.replicate, List.getD_cons_zero, List.getD_cons_succ, List.getD_nil, List.nodup_nil, ite_true, ite_false, Bool.not_true, Bool.not_false, Bool.false_eq_true, reduceCtorEq, Nat.reduceSub, Nat.reduceAdd, List.nodup_cons, List.not_mem_nil, not_false_eq_true, and_self, and_true, true_and, decide_true, decide_false, List.take_succ_cons, List.take_zero, sizeLine_eq, Nat.zero_le, Nat.reduceLeDiff, Nat.reduceLT, Nat.reduceEqDiff, cp_bind, cp_pure, cp_bindS, cp_seqS, cp_nmO, cp_cO, cp_frzD, cp_frzO, cp_valO, cp_valD, cp_binX, cp_unX, cp_caX, cp_nilA, cp_consA, cp_nilD, cp_consD, cp_free_eq, cp_setS, cp_retS, cp_exprS, cp_ifS, cp_nxS, cp_retN, cp_mvX, cp_frD, cp_frO, cp_truO, cp_tstB, cp_andT, cp_orT, cp_notT, cp_notX, cp_andO, cp_orO, cp_ifE, cp_chX, cp_noO, cp_ptO, cp_slX, cp_tupX, cp_lstX, cp_dic0X, cp_itX, cp_enX, cp_rg1, cp_gN, cp_asgS, cp_forS, cp_loopS_cons, cp_callX, cp_appF, cp_mkX, cp_fldS, cp_attX, cp_raiseS1, cp_raiseS0, cp_tryS, cp_muX, cp_muN, cp_mtX, cp_hasOw_eq, cp_gSubD, cp_parS, cp_kwX, cp_yesT, cp_compX, cp_compL_cons, e1, h3, ↓e2, h4, e3, ↓e4, e5, e9, ↓e8, e6, ↓e7]
theorem law_ok (ns : List Int) (_ : ns.length ≤ 63) : ∃ ρ, F62 [.fz (.scr ns)] = .ok ρ (.fz (.bl true)) := by
  obtain ⟨n, hn, hn'⟩ : ∃ n : Nat, n ≤ 16 ∧ ∀ ρ, frzO (caX (two maxD) (consA (cO (.int 2)) (consA (frzO (caX (two minD) (consA (frzO (caX (one lenD) (consA (nmO 0) nilA))) (consA (cO (.int 16)) nilA)))) nilA))) (.fz (.scr ns) :: ρ) = .ok (.fz (.scr ns) :: ρ) (.vl (.int n)) := by
    refine ⟨max 2 (min ns.length 16), by omega, fun ρ => ?_⟩
    have l1 : lenD (.scr ns) = some (.fz (.int ns.length)) := rfl
    have l2 : minD (.int ns.length) (.int 16) = some (.fz (.int (min ns.length 16 : Nat))) := by
      show some (Sl.fz (.int (if (16 : Int) < ns.length then 16 else (ns.length : Int)))) = _
      congr 3
      split <;> omega
    have l3 : maxD (.int 2) (.int (min ns.length 16 : Nat)) = some (.fz (.int (max 2 (min ns.length 16) : Nat))) := by
      show some (Sl.fz (.int (if ((min ns.length 16 : Nat) : Int) > 2 then ((min ns.length 16 : Nat) : Int) else 2))) = _
      congr 3
      split <;> omega
    simp only [bR_ok, bR_exc, bR_bad, kR_ok, bS_ok, bS_exc, bS_bad, nS_nx, nS_rt, nS_exc, nS_bk, nS_ct, nS_bad, gS_nx, lS_nx, lS_ct, lS_bk, lS_rt, lS_exc, fS_rt, fS_nx, fS_exc, hS_nx, hS_rt, hS_exc, pR_ok, pR_exc, oR_some, oR_none, cR_true, cR_false, xS_ok, con_vl, con_sl, conS_nil, conS_cons, loopS_nil, compL_nil, handle_nil, handle_cons, ap_bodyF, takeR_ok, takeR_exc, nmS, coS, vaS, vaA, vdS, vdA, mvS, frS, tsS, blO, ptS, muS, owB, gbS, gbD, flS, tkS, goneS, frz_fz, frz_ow, frz_oo, mine_no, mine_fz, mine_ow, mine_oo, owned_no, owned_fz, owned_ow, owned_oo, flag_no, flag_fz, flag_ow, flag_oo, give, back, argS, ownIx, wb, one, two, intS, blS, itemsD_lst, itemsD_tup, itemsD_scr, itemsD_str, enumD_lst, enumD_tup, numD_nil, numD_cons, truD_bl, truD_non, truD_int, truD_lst, truD_tup, attD, recOf, putFD, ap_gNilD, ap_gTupD, ap_gConsD, List.getElem?_cons_zero, List.getElem?_cons_succ, List.getElem?_nil, List.set_cons_zero, List.set_cons_succ, List.map_cons, List.map_nil, List.length_cons, List.length_nil, List.cons_append, List.nil_append, List.append_nil, List.replicate, List.getD_cons_zero, List.getD_cons_succ, List.getD_nil, List.nodup_nil, ite_true, ite_false, Bool.not_true, Bool.not_false, Bool.false_eq_true, reduceCtorEq, Nat.reduceSub, Nat.reduceAdd, List.nodup_cons, List.not_mem_nil, not_false_eq_true, and_self, and_true, true_and, decide_true, decide_false, List.take_succ_cons, List.take_zero, sizeLine_eq, Nat.zero_le, Nat.reduceLeDiff, Nat.reduceLT, Nat.reduceEqDiff, cp_bind, cp_pure, cp_bindS, cp_seqS, cp_nmO, cp_cO, cp_frzD, cp_frzO, cp_valO, cp_valD, cp_binX, cp_unX, cp_caX, cp_nilA, cp_consA, cp_nilD, cp_consD, cp_free_eq, cp_setS, cp_retS, cp_exprS, cp_ifS, cp_nxS, cp_retN, cp_mvX, cp_frD, cp_frO, cp_truO, cp_tstB, cp_andT, cp_orT, cp_notT, cp_notX, cp_andO, cp_orO, cp_ifE, cp_chX, cp_noO, cp_ptO, cp_slX, cp_tupX, cp_lstX, cp_dic0X, cp_itX, cp_enX, cp_rg1, cp_gN, cp_asgS, cp_forS, cp_loopS_cons, cp_callX, cp_appF, cp_mkX, cp_fldS, cp_attX, cp_raiseS1, cp_raiseS0, cp_tryS, cp_muX, cp_muN, cp_mtX, cp_hasOw_eq, cp_gSubD, cp_parS, cp_kwX, cp_yesT, cp_compX, cp_compL_cons, l1, l2, l3]
  have er := fun ρ => rgS_nat (ρ := ρ) (show n ≤ 1000000 by omega)
  obtain ⟨ρ', el, s2, s3, s4, s6, s7, s8, rfl, _⟩ := loopS_inv (t := gN 2) (body := kB) (KI ns) (rngD 0 n) 0 [.fz (.scr ns), .ow false things, .no, .no, .no, .no, .no, .no, .no, .no] ⟨_, _, _, _, _, _, rfl, rfl, rfl, rfl, rfl, rfl, rfl⟩ fun j d ρ hj hi => by
    obtain ⟨s2, s3, s4, s6, s7, s8, rfl, h2, h3, h4, h6, h7, h8⟩ := hi
    obtain ⟨i, rfl, i0, i1⟩ := mem_rngD (List.mem_of_getElem? hj)
    obtain ⟨s3', s4', s6', s7', s8', e, q3, q4, q6, q7, q8⟩ := k_ok (ns := ns) (k := i) ⟨i0, by omega⟩ h3 h4 h6 h7 h8
    refine ⟨[.fz (.scr ns), .ow false things, .fz (.int i), s3, s4, .no, s6, s7, s8, .no], _, ?_, .inl e, _, _, _, _, _, _, rfl, rfl, q3, q4, q6, q7, q8⟩
    simp only [bR_ok, bR_exc, bR_bad, kR_ok, bS_ok, bS_exc, bS_bad, nS_nx, nS_rt, nS_exc, nS_bk, nS_ct, nS_bad, gS_nx, lS_nx, lS_ct, lS_bk, lS_rt, lS_exc, fS_rt, fS_nx, fS_exc, hS_nx, hS_rt, hS_exc, pR_ok, pR_exc, oR_some, oR_none, cR_true, cR_false, xS_ok, con_vl, con_sl, conS_nil, conS_cons, loopS_nil, compL_nil, handle_nil, handle_cons, ap_bodyF, takeR_ok, takeR_exc, nmS, coS, vaS, vaA, vdS, vdA, mvS, frS, tsS, blO, ptS, muS, owB, gbS, gbD, flS, tkS, goneS, frz_fz, frz_ow, frz_oo, mine_no, mine_fz, mine_ow, mine_oo, owned_no, owned_fz, owned_ow, owned_oo, flag_no, flag_fz, flag_ow, flag_oo, give, back, argS, ownIx, wb, one, two, intS, blS, itemsD_lst, itemsD_tup, itemsD_scr, itemsD_str, enumD_lst, enumD_tup, numD_nil, numD_cons, truD_bl, truD_non, truD_int, truD_lst, truD_tup, attD, recOf, putFD, ap_gNilD, ap_gTupD, ap_gConsD, List.getElem?_cons_zero, List.getElem?_cons_succ, List.getElem?_nil, List.set_cons_zero, List.set_cons_succ, List.map_cons, List.map_nil, List.length_cons, List.length_nil, List.cons_append, List.nil_append, List.append_nil, List.replicate, List.getD_cons_zero, List.getD_cons_succ, List.getD_nil, List.nodup_nil, ite_true, ite_false, Bool.not_true, Bool.not_false, Bool.false_eq_true, reduceCtorEq, Nat.reduceSub, Nat.reduceAdd, List.nodup_cons, List.not_mem_nil, not_false_eq_true, and_self, and_true, true_and, decide_true, decide_false, List.take_succ_cons, List.take_zero, sizeLine_eq, Nat.zero_le, Nat.reduceLeDiff, Nat.reduceLT, Nat.reduceEqDiff, cp_bind, cp_pure, cp_bindS, cp_seqS, cp_nmO, cp_cO, cp_frzD, cp_frzO, cp_valO, cp_valD, cp_binX, cp_unX, cp_caX, cp_nilA, cp_consA, cp_nilD, cp_consD, cp_free_eq, cp_setS, cp_retS, cp_exprS, cp_ifS, cp_nxS, cp_retN, cp_mvX, cp_frD, cp_frO, cp_truO, cp_tstB, cp_andT, cp_orT, cp_notT, cp_notX, cp_andO, cp_orO, cp_ifE, cp_chX, cp_noO, cp_ptO, cp_slX, cp_tupX, cp_lstX, cp_dic0X, cp_itX, cp_enX, cp_rg1, cp_gN, cp_asgS, cp_forS, cp_loopS_cons, cp_callX, cp_appF, cp_mkX, cp_fldS, cp_attX, cp_raiseS1, cp_raiseS0, cp_tryS, cp_muX, cp_muN, cp_mtX, cp_hasOw_eq, cp_gSubD, cp_parS, cp_kwX, cp_yesT, cp_compX, cp_compL_cons, h2]
  have fA : ∀ ρ, setS 1 (lstX (consD (valD (cO .non)) (consD (valD (cO (.int 0))) (consD (valD (cO (.int 1))) (consD (valD (cO (.bl true))) (consD (valD (cO (.str ""))) (consD (valD (cO (.str " "))) (consD (frzD (tupX (consD (valD (cO (.str "ann"))) nilD))) (consD (frzD (lstX (consD (valD (cO (.str "ann"))) nilD))) (consD (frzD dic0X) (consD (frzD (tupX (consD (frzD (lstX nilD)) nilD))) (consD (frzD (lstX (consD (frzD (lstX (consD (valD (cO (.str "ann"))) nilD))) nilD))) (consD (valD (cO (.str "ann "))) (consD (valD (cO (.str "Ann"))) (consD (valD (cO (.str "a\nb"))) (consD (frzD (tupX nilD)) nilD)))))))))))))))) (.fz (.scr ns) :: .no :: ρ) = .nx (.fz (.scr ns) :: .ow false (things.take 15) :: ρ) := fun ρ => by kernel_rfl
  have fB : ∀ ρ, exprS (muN 1 (muX 1 appendG (consD (valD (cO (.str "abcdefghi"))) nilD))) (.fz (.scr ns) :: .ow false (things.take 15) :: ρ) = .nx (.fz (.scr ns) :: .ow false things :: ρ) := fun ρ => by kernel_rfl
  refine ⟨[.fz (.scr ns)], ?_⟩
  unfold kB oddB at el
  unfold F62 g62
  simp only [bR_ok, bR_exc, bR_bad, kR_ok, bS_ok, bS_exc, bS_bad, nS_nx, nS_rt, nS_exc, nS_bk, nS_ct, nS_bad, gS_nx, lS_nx, lS_ct, lS_bk, lS_rt, lS_exc, fS_rt, fS_nx, fS_exc, hS_nx, hS_rt, hS_exc, pR_ok, pR_exc, oR_some, oR_none, cR_true, cR_false, xS_ok, con_vl, con_sl, conS_nil, conS_cons, loopS_nil, compL_nil, handle_nil, handle_cons, ap_bodyF, takeR_ok, takeR_exc, nmS, coS, vaS, vaA, vdS, vdA, mvS, frS, tsS, blO, ptS, muS, owB, gbS, gbD, flS, tkS, goneS, frz_fz, frz_ow, frz_oo, mine_no, mine_fz, mine_ow, mine_oo, owned_no, owned_fz, owned_ow, owned_oo, flag_no, flag_fz, flag_ow, flag_oo, give, back, argS, ownIx, wb, one, two, intS, blS, itemsD_lst, itemsD_tup, itemsD_scr, itemsD_str, enumD_lst, enumD_tup, numD_nil, numD_cons, truD_bl, truD_non, truD_int, truD_lst, truD_tup, attD, recOf, putFD, ap_gNilD, ap_gTupD, ap_gConsD, List.getElem?_cons_zero, List.getElem?_cons_succ, List.getElem?_nil, List.set_cons_zero, List.set_cons_succ, List.map_cons, List.map_nil, List.length_cons, List.length_nil, List.cons_append, List.nil_append, List.append_nil, List.replicate, List.getD_cons_zero, List.getD_cons_succ, List.getD_nil, List.nodup_nil, ite_true, ite_false, Bool.not_true, Bool.not_false, Bool.false_eq_true, reduceCtorEq, Nat.reduceSub, Nat.reduceAdd, List.nodup_cons, List.not_mem_nil, not_false_eq_true, and_self, and_true, true_and, decide_true, decide_false, List.take_succ_cons, List.take_zero, sizeLine_eq, Nat.zero_le, Nat.reduceLeDiff, Nat.reduceLT, Nat.reduceEqDiff, cp_bind, cp_pure, cp_bindS, cp_seqS, cp_nmO, cp_cO, cp_frzD, cp_frzO, cp_valO, cp_valD, cp_binX, cp_unX, cp_caX, cp_nilA, cp_consA, cp_nilD, cp_consD, cp_free_eq, cp_setS, cp_retS, cp_exprS, cp_ifS, cp_nxS, cp_retN, cp_mvX, cp_frD, cp_frO, cp_truO, cp_tstB, cp_andT, cp_orT, cp_notT, cp_notX, cp_andO, cp_orO, cp_ifE, cp_chX, cp_noO, cp_ptO, cp_slX, cp_tupX, cp_lstX, cp_dic0X, cp_itX, cp_enX, cp_rg1, cp_gN, cp_asgS, cp_forS, cp_loopS_cons, cp_callX, cp_appF, cp_mkX, cp_fldS, cp_attX, cp_raiseS1, cp_raiseS0, cp_tryS, cp_muX, cp_muN, cp_mtX, cp_hasOw_eq, cp_gSubD, cp_parS, cp_kwX, cp_yesT, cp_compX, cp_compL_cons, ↓fA, ↓fB, ↓hn', ↓er, ↓el]
end M
namespace Hd
open PySem PySem.Spec PyProof.Rows L2 L2.WD Dn
def topS (i : Nat) : Stmt := PySem.Challenge.pw_willdealt_k01_names_of_any_kind.main.body.getD i (.Pass ⟨0, 0, 0, 0⟩)
abbrev s0 : Stmt := inClass (topS 4) 0
def d0 : He.DefD := ⟨("NoName", some "__init__"), "__init__", "NoName.__init__", defArgs s0, defBody s0, defScope s0, [], []⟩
abbrev s1 : Stmt := inClass (topS 5) 0
def d1 : He.DefD := ⟨("NoSum", some "__init__"), "__init__", "NoSum.__init__", defArgs s1, defBody s1, defScope s1, [], []⟩
abbrev s2 : Stmt := inClass (topS 7) 0
def d2 : He.DefD := ⟨("NoPeople", some "__init__"), "__init__", "NoPeople.__init__", defArgs s2, defBody s2, defScope s2, [], []⟩
abbrev s3 : Stmt := inClass (topS 8) 0
def d3 : He.DefD := ⟨("NoGoods", some "__init__"), "__init__", "NoGoods.__init__", defArgs s3, defBody s3, defScope s3, [], []⟩
abbrev s4 : Stmt := inClass (topS 9) 0
def d4 : He.DefD := ⟨("NoText", some "__init__"), "__init__", "NoText.__init__", defArgs s4, defBody s4, defScope s4, [], []⟩
abbrev s5 : Stmt := inClass (topS 10) 0
def d5 : He.DefD := ⟨("NoStory", some "__init__"), "__init__", "NoStory.__init__", defArgs s5, defBody s5, defScope s5, [], []⟩
abbrev s6 : Stmt := inClass (topS 11) 0
def d6 : He.DefD := ⟨("NoDay", some "__init__"), "__init__", "NoDay.__init__", defArgs s6, defBody s6, defScope s6, [], []⟩
abbrev s7 : Stmt := inClass (topS 14) 0
def d7 : He.DefD := ⟨("NoClause", some "__init__"), "__init__", "NoClause.__init__", defArgs s7, defBody s7, defScope s7, [], []⟩
abbrev s8 : Stmt := inClass (topS 15) 0
def d8 : He.DefD := ⟨("NoReading", some "__init__"), "__init__", "NoReading.__init__", defArgs s8, defBody s8, defScope s8, [], []⟩
abbrev s9 : Stmt := inClass (topS 16) 0
def d9 : He.DefD := ⟨("NoWord", some "__init__"), "__init__", "NoWord.__init__", defArgs s9, defBody s9, defScope s9, [], []⟩
abbrev s10 : Stmt := inClass (topS 17) 0
def d10 : He.DefD := ⟨("LabelStands", some "__init__"), "__init__", "LabelStands.__init__", defArgs s10, defBody s10, defScope s10, [], []⟩
abbrev s11 : Stmt := inClass (topS 18) 0
def d11 : He.DefD := ⟨("DayStands", some "__init__"), "__init__", "DayStands.__init__", defArgs s11, defBody s11, defScope s11, [], []⟩
abbrev s12 : Stmt := inClass (topS 20) 0
def d12 : He.DefD := ⟨("NoPerson", some "__init__"), "__init__", "NoPerson.__init__", defArgs s12, defBody s12, defScope s12, [], []⟩
abbrev s13 : Stmt := inClass (topS 21) 0
def d13 : He.DefD := ⟨("NoThing", some "__init__"), "__init__", "NoThing.__init__", defArgs s13, defBody s13, defScope s13, [], []⟩
abbrev s14 : Stmt := inClass (topS 22) 0
def d14 : He.DefD := ⟨("NoLabel", some "__init__"), "__init__", "NoLabel.__init__", defArgs s14, defBody s14, defScope s14, [], []⟩
abbrev s15 : Stmt := inClass (topS 24) 0
def d15 : He.DefD := ⟨("TooMany", some "__init__"), "__init__", "TooMany.__init__", defArgs s15, defBody s15, defScope s15, [], []⟩
abbrev s16 : Stmt := topS 31
def d16 : He.DefD := ⟨("is_whole", none), "is_whole", "is_whole", defArgs s16, defBody s16, defScope s16, [], []⟩
abbrev s17 : Stmt := topS 32
def d17 : He.DefD := ⟨("is_between", none), "is_between", "is_between", defArgs s17, defBody s17, defScope s17, [], []⟩
abbrev s18 : Stmt := topS 33
def d18 : He.DefD := ⟨("is_name", none), "is_name", "is_name", defArgs s18, defBody s18, defScope s18, [], []⟩
abbrev s19 : Stmt := topS 34
def d19 : He.DefD := ⟨("check_name", none), "check_name", "check_name", defArgs s19, defBody s19, defScope s19, [], []⟩
abbrev s20 : Stmt := topS 35
def d20 : He.DefD := ⟨("is_sum", none), "is_sum", "is_sum", defArgs s20, defBody s20, defScope s20, [], []⟩
abbrev s21 : Stmt := topS 36
def d21 : He.DefD := ⟨("check_sum", none), "check_sum", "check_sum", defArgs s21, defBody s21, defScope s21, [], []⟩
abbrev s22 : Stmt := topS 37
def d22 : He.DefD := ⟨("is_day", none), "is_day", "is_day", defArgs s22, defBody s22, defScope s22, [], []⟩
abbrev s23 : Stmt := topS 38
def d23 : He.DefD := ⟨("check_day", none), "check_day", "check_day", defArgs s23, defBody s23, defScope s23, [], []⟩
abbrev s24 : Stmt := topS 42
def d24 : He.DefD := ⟨("is_person", none), "is_person", "is_person", defArgs s24, defBody s24, defScope s24, [], []⟩
abbrev s25 : Stmt := topS 43
def d25 : He.DefD := ⟨("check_people", none), "check_people", "check_people", defArgs s25, defBody s25, defScope s25, [], []⟩
abbrev s26 : Stmt := topS 44
def d26 : He.DefD := ⟨("is_ware", none), "is_ware", "is_ware", defArgs s26, defBody s26, defScope s26, [], []⟩
abbrev s27 : Stmt := topS 45
def d27 : He.DefD := ⟨("check_goods", none), "check_goods", "check_goods", defArgs s27, defBody s27, defScope s27, [], []⟩
abbrev s28 : Stmt := inClass (topS 46) 0
def d28 : He.DefD := ⟨("House", some "__init__"), "__init__", "House.__init__", defArgs s28, defBody s28, defScope s28, [.non, .int 0, .int 0], []⟩
abbrev s29 : Stmt := inClass (topS 46) 1
def d29 : He.DefD := ⟨("House", some "__eq__"), "__eq__", "House.__eq__", defArgs s29, defBody s29, defScope s29, [], []⟩
abbrev s30 : Stmt := inClass (topS 46) 2
def d30 : He.DefD := ⟨("House", some "__len__"), "__len__", "House.__len__", defArgs s30, defBody s30, defScope s30, [], []⟩
abbrev s31 : Stmt := inClass (topS 46) 3
def d31 : He.DefD := ⟨("House", some "__str__"), "__str__", "House.__str__", defArgs s31, defBody s31, defScope s31, [], []⟩
abbrev s32 : Stmt := inClass (topS 46) 4
def d32 : He.DefD := ⟨("House", some "__repr__"), "__repr__", "House.__repr__", defArgs s32, defBody s32, defScope s32, [], []⟩
abbrev s33 : Stmt := inClass (topS 46) 5
def d33 : He.DefD := ⟨("House", some "people"), "people", "House.people", defArgs s33, defBody s33, defScope s33, [], []⟩
abbrev s34 : Stmt := inClass (topS 46) 6
def d34 : He.DefD := ⟨("House", some "parent"), "parent", "House.parent", defArgs s34, defBody s34, defScope s34, [], []⟩
abbrev s35 : Stmt := inClass (topS 46) 7
def d35 : He.DefD := ⟨("House", some "children"), "children", "House.children", defArgs s35, defBody s35, defScope s35, [], []⟩
abbrev s36 : Stmt := inClass (topS 46) 8
def d36 : He.DefD := ⟨("House", some "ware"), "ware", "House.ware", defArgs s36, defBody s36, defScope s36, [], []⟩
abbrev s37 : Stmt := inClass (topS 46) 9
def d37 : He.DefD := ⟨("House", some "kind"), "kind", "House.kind", defArgs s37, defBody s37, defScope s37, [], []⟩
abbrev s38 : Stmt := inClass (topS 46) 10
def d38 : He.DefD := ⟨("House", some "worth"), "worth", "House.worth", defArgs s38, defBody s38, defScope s38, [], []⟩
abbrev s39 : Stmt := inClass (topS 46) 11
def d39 : He.DefD := ⟨("House", some "goods"), "goods", "House.goods", defArgs s39, defBody s39, defScope s39, [], []⟩
abbrev s40 : Stmt := topS 47
def d40 : He.DefD := ⟨("person_row", none), "person_row", "person_row", defArgs s40, defBody s40, defScope s40, [], []⟩
abbrev s41 : Stmt := topS 51
def d41 : He.DefD := ⟨("divisor", none), "divisor", "divisor", defArgs s41, defBody s41, defScope s41, [], []⟩
abbrev s42 : Stmt := topS 52
def d42 : He.DefD := ⟨("is_share", none), "is_share", "is_share", defArgs s42, defBody s42, defScope s42, [], []⟩
abbrev s43 : Stmt := topS 53
def d43 : He.DefD := ⟨("are_shares", none), "are_shares", "are_shares", defArgs s43, defBody s43, defScope s43, [], []⟩
abbrev s44 : Stmt := topS 54
def d44 : He.DefD := ⟨("parts_by", none), "parts_by", "parts_by", defArgs s44, defBody s44, defScope s44, [], []⟩
abbrev s45 : Stmt := topS 55
def d45 : He.DefD := ⟨("split_by", none), "split_by", "split_by", defArgs s45, defBody s45, defScope s45, [], []⟩
abbrev s46 : Stmt := topS 56
def d46 : He.DefD := ⟨("parted", none), "parted", "parted", defArgs s46, defBody s46, defScope s46, [], []⟩
abbrev s47 : Stmt := topS 59
def d47 : He.DefD := ⟨("is_death", none), "is_death", "is_death", defArgs s47, defBody s47, defScope s47, [], []⟩
abbrev s48 : Stmt := topS 60
def d48 : He.DefD := ⟨("check_deaths", none), "check_deaths", "check_deaths", defArgs s48, defBody s48, defScope s48, [], []⟩
abbrev s49 : Stmt := inClass (topS 61) 0
def d49 : He.DefD := ⟨("Story", some "__init__"), "__init__", "Story.__init__", defArgs s49, defBody s49, defScope s49, [.non], []⟩
abbrev s50 : Stmt := inClass (topS 61) 1
def d50 : He.DefD := ⟨("Story", some "__eq__"), "__eq__", "Story.__eq__", defArgs s50, defBody s50, defScope s50, [], []⟩
abbrev s51 : Stmt := inClass (topS 61) 2
def d51 : He.DefD := ⟨("Story", some "__len__"), "__len__", "Story.__len__", defArgs s51, defBody s51, defScope s51, [], []⟩
abbrev s52 : Stmt := inClass (topS 61) 3
def d52 : He.DefD := ⟨("Story", some "__str__"), "__str__", "Story.__str__", defArgs s52, defBody s52, defScope s52, [], []⟩
abbrev s53 : Stmt := inClass (topS 61) 4
def d53 : He.DefD := ⟨("Story", some "__repr__"), "__repr__", "Story.__repr__", defArgs s53, defBody s53, defScope s53, [], []⟩
abbrev s54 : Stmt := inClass (topS 61) 5
def d54 : He.DefD := ⟨("Story", some "died"), "died", "Story.died", defArgs s54, defBody s54, defScope s54, [], []⟩
abbrev s55 : Stmt := inClass (topS 61) 6
def d55 : He.DefD := ⟨("Story", some "lives"), "lives", "Story.lives", defArgs s55, defBody s55, defScope s55, [], []⟩
abbrev s56 : Stmt := topS 63
def d56 : He.DefD := ⟨("_law_pool", none), "_law_pool", "_law_pool", defArgs s56, defBody s56, defScope s56, [], []⟩
abbrev s57 : Stmt := topS 64
def d57 : He.DefD := ⟨("_law_take", none), "_law_take", "_law_take", defArgs s57, defBody s57, defScope s57, [], []⟩
abbrev s58 : Stmt := topS 65
def d58 : He.DefD := ⟨("_law_sort", none), "_law_sort", "_law_sort", defArgs s58, defBody s58, defScope s58, [], []⟩
abbrev s59 : Stmt := topS 66
def d59 : He.DefD := ⟨("_law_is_name", none), "_law_is_name", "_law_is_name", defArgs s59, defBody s59, defScope s59, [], []⟩
abbrev s60 : Stmt := topS 67
def d60 : He.DefD := ⟨("_law_drawn", none), "_law_drawn", "_law_drawn", defArgs s60, defBody s60, defScope s60, [], []⟩
abbrev s61 : Stmt := topS 68
def d61 : He.DefD := ⟨("_law_refused", none), "_law_refused", "_law_refused", defArgs s61, defBody s61, defScope s61, [], []⟩
abbrev s62 : Stmt := topS 69
def d62 : He.DefD := ⟨("law", none), "law", "law", defArgs s62, defBody s62, defScope s62, [], []⟩
def fn : List He.DefD := [d1, d2, d3, d5, d16, d17, d18, d20, d21, d22, d24, d25, d26, d27, d28, d46, d47, d48, d49, d56, d57, d58, d59, d60, d61, d62]
def exmL : List Nat := [10]
def cn : List Str := [("WordError" : Str), ("LostError" : Str), ("RoomError" : Str), ("NoName" : Str), ("NoSum" : Str), ("NoShares" : Str), ("NoPeople" : Str), ("NoGoods" : Str), ("NoText" : Str), ("NoStory" : Str), ("NoDay" : Str), ("NoCond" : Str), ("NoWhom" : Str), ("NoClause" : Str), ("NoReading" : Str), ("NoWord" : Str), ("LabelStands" : Str), ("DayStands" : Str), ("NoRow" : Str), ("NoPerson" : Str), ("NoThing" : Str), ("NoLabel" : Str), ("NoUndo" : Str), ("TooMany" : Str), ("House" : Str), ("Story" : Str)]
def fa : List He.Fa := [.free "range", .free "len", .free "min", .free "max", .free "int", .free "ArithmeticError", .free "isinstance", .free "LookupError", .free "ValueError", .glo "RoomError", .glo "LostError", .glo "WordError", .glo "TooMany", .glo "NoUndo", .glo "NoLabel", .glo "NoThing", .glo "NoPerson", .glo "NoRow", .glo "DayStands", .glo "LabelStands", .glo "NoWord", .glo "NoReading", .glo "NoClause", .glo "NoWhom", .glo "NoCond", .glo "NoDay", .glo "NoStory", .glo "NoText", .glo "NoGoods", .glo "NoPeople", .glo "NoShares", .glo "NoSum", .glo "NoName", .glo "_law_sort", .free "bool", .glo "is_whole", .int "MOST_AMOUNT" 1000000000000, .glo "is_between", .glo "parted", .cls "Story", .noat "Story" "deaths", .free "enumerate", .free "tuple", .str "LETTERS" "abcdefghijklmnopqrstuvwxyz", .free "all", .free "str", .int "MOST_LETTERS" 8, .glo "WORDS", .glo "is_name", .int "MOST_DAY" 9999, .glo "is_day", .glo "is_death", .int "MOST_DEATHS" 8, .glo "check_deaths", .mkr "Story", .glo "Story", .cls "House", .noat "House" "debts", .noat "House" "purse", .noat "House" "wares", .noat "House" "folk", .int "MOST_SUM" 1000000000, .glo "is_sum", .glo "check_sum", .glo "is_ware", .int "MOST_GOODS" 8, .glo "check_goods", .glo "is_person", .int "MOST_PEOPLE" 8, .glo "check_people", .mkr "House", .glo "House", .glo "_law_refused", .glo "_law_is_name", .free "divmod", .glo "_law_take", .glo "_law_drawn", .free "abs", .free "sum", .glo "_law_pool", .glo "law"]
def exl : List (PySem.W.Frag → Bool) := [fun K => excB K (He.ga K "NoPeople"),
  fun K => noB K (He.ga K "NoPeople") "number",
  fun K => excB K (He.ga K "NoGoods"),
  fun K => noB K (He.ga K "NoGoods") "number",
  fun K => excB K (He.ga K "NoStory"),
  fun K => noB K (He.ga K "NoStory") "number",
  fun K => excB K (He.ga K "NoClause"),
  fun K => noB K (He.ga K "NoClause") "number",
  fun K => excB K (He.ga K "NoName"),
  fun K => noB K (He.ga K "NoName") "thing",
  fun K => excB K (He.ga K "NoSum"),
  fun K => noB K (He.ga K "NoSum") "thing",
  fun K => excB K (He.ga K "NoDay"),
  fun K => noB K (He.ga K "NoDay") "thing",
  fun K => excB K (He.ga K "NoReading"),
  fun K => noB K (He.ga K "NoReading") "thing",
  fun K => excB K (He.ga K "NoWord"),
  fun K => noB K (He.ga K "NoWord") "thing",
  fun K => excB K (He.ga K "DayStands"),
  fun K => noB K (He.ga K "DayStands") "thing",
  fun K => exc0B K tlV "ValueError.__new__" (He.ga K "NoShares"),
  fun K => oexB K tlV "ValueError.__new__" (He.ga K "NoSum"),
  fun K => baseB K (He.ga K "WordError") "ValueError.__init__",
  fun K => iniB K (He.ga K "NoSum") (He.ma K (He.ga K "NoSum") "__init__"),
  fun K => He.tupB K "WORDS" [.str "all", .str "and", .str "children", .str "childless", .str "crown", .str "else", .str "if", .str "lives", .str "not", .str "of", .str "or", .str "stock", .str "to"],
  fun K => oexB K tlV "ValueError.__new__" (He.ga K "NoStory"),
  fun K => iniB K (He.ga K "NoStory") (He.ma K (He.ga K "NoStory") "__init__"),
  fun K => oexB K tlV "ValueError.__new__" (He.ga K "NoGoods"),
  fun K => iniB K (He.ga K "NoGoods") (He.ma K (He.ga K "NoGoods") "__init__"),
  fun K => oexB K tlV "ValueError.__new__" (He.ga K "NoPeople"),
  fun K => iniB K (He.ga K "NoPeople") (He.ma K (He.ga K "NoPeople") "__init__"),
  fun K => isiB (evOf cn K fun _ => none) isiKs ancL,
  fun K => excB K (He.ga K "WordError"),
  fun K => excB K (He.ga K "LostError"),
  fun K => excB K (He.ga K "RoomError"),
  fun K => excB K (He.ga K "NoShares"),
  fun K => excB K (He.ga K "NoText"),
  fun K => excB K (He.ga K "NoCond"),
  fun K => excB K (He.ga K "NoWhom"),
  fun K => excB K (He.ga K "LabelStands"),
  fun K => excB K (He.ga K "NoRow"),
  fun K => excB K (He.ga K "NoPerson"),
  fun K => excB K (He.ga K "NoThing"),
  fun K => excB K (He.ga K "NoLabel"),
  fun K => excB K (He.ga K "NoUndo"),
  fun K => excB K (He.ga K "TooMany"),
  fun K => insB K (He.ga K "House"),
  fun K => insB K (He.ga K "Story"),
  fun K => exmB (evOf cn K fun _ => none) excL exmL ancL]
def ex (K : PySem.W.Frag) : Bool := exl.all fun f => f K
abbrev E (K : PySem.W.Frag) (mg : Str → Option Value) : Ev := evOf cn K mg
abbrev R : PySem.W.OpenRow := PySem.W.OpenLaw.row PySem.Challenge.rw_willdealt_k01_names_of_any_kind
abbrev hk : PySem.W.Hook := hookY 5 fa fn ex
def ob (s : PySem.W.SharedT) : AlY := obsY 5 fa fn ex (HandSHeadRun.getT s)
theorem ob_eq (s : PySem.W.SharedT) : ob s = hk.obs s.abs := obsY_eq (HandSHeadRun.getT_eq s)
def nm0 : List PySem.Str := [("WordError" : PySem.Str), ("LostError" : PySem.Str), ("RoomError" : PySem.Str), ("NoName" : PySem.Str), ("NoSum" : PySem.Str), ("NoShares" : PySem.Str), ("NoPeople" : PySem.Str), ("NoGoods" : PySem.Str), ("NoText" : PySem.Str), ("NoStory" : PySem.Str), ("NoDay" : PySem.Str), ("NoCond" : PySem.Str), ("NoWhom" : PySem.Str), ("NoClause" : PySem.Str), ("NoReading" : PySem.Str), ("NoWord" : PySem.Str), ("LabelStands" : PySem.Str), ("DayStands" : PySem.Str), ("NoRow" : PySem.Str), ("NoPerson" : PySem.Str), ("NoThing" : PySem.Str), ("NoLabel" : PySem.Str), ("NoUndo" : PySem.Str), ("TooMany" : PySem.Str), ("LETTERS" : PySem.Str), ("MOST_LETTERS" : PySem.Str), ("MOST_SUM" : PySem.Str), ("MOST_DAY" : PySem.Str), ("WORDS" : PySem.Str), ("is_whole" : PySem.Str), ("is_between" : PySem.Str), ("is_name" : PySem.Str), ("check_name" : PySem.Str), ("is_sum" : PySem.Str), ("check_sum" : PySem.Str), ("is_day" : PySem.Str), ("check_day" : PySem.Str), ("MOST_PEOPLE" : PySem.Str), ("MOST_GOODS" : PySem.Str), ("is_person" : PySem.Str)]
def nm1 : List PySem.Str := [("check_people" : PySem.Str), ("is_ware" : PySem.Str), ("check_goods" : PySem.Str), ("House" : PySem.Str), ("person_row" : PySem.Str), ("MOST_AMOUNT" : PySem.Str), ("MOST_SHARES" : PySem.Str), ("divisor" : PySem.Str), ("is_share" : PySem.Str), ("are_shares" : PySem.Str), ("parts_by" : PySem.Str), ("split_by" : PySem.Str), ("parted" : PySem.Str), ("MOST_DEATHS" : PySem.Str), ("is_death" : PySem.Str), ("check_deaths" : PySem.Str), ("Story" : PySem.Str), ("_law_pool" : PySem.Str), ("_law_take" : PySem.Str), ("_law_sort" : PySem.Str), ("_law_is_name" : PySem.Str), ("_law_drawn" : PySem.Str), ("_law_refused" : PySem.Str)]
def nms : List PySem.Str := nm0 ++ nm1
theorem run (w : World) : HandSHeadRun.RunEq R (PySem.W.view R.prog [69]) hk ob 20000 nms w := by
  intro os
  kernel_rfl
structure All (K : PySem.W.Frag) (mg : Str → Option Value) (h : Heap) : Prop where
  c : He.SaysD fa fn K
  X : K.In h
  G : h.Ns mainGlobals mg
  ex : ex K = true
section
variable {K : PySem.W.Frag} {mg : Str → Option Value} {h : Heap} {P : Program} {w : World} {base : Heap}
theorem All.glo (A : All K mg h) (i : Nat) {x : Str} (q : fa[i]? = some (.glo x)) : (E K mg).mg x = some (.ref (He.ga K x)) := He.glo_ok A.X A.G (A.c.fact i q)
theorem All.fre (A : All K mg h) (i : Nat) {x : Str} (q : fa[i]? = some (.free x)) : (E K mg).mg x = none := He.free_ok A.X A.G (A.c.fact i q)
theorem All.int (A : All K mg h) {X : Cx} {W : WX} (C : EC X (E K mg) W) (i : Nat) {x : Str} {n : Int} (q : fa[i]? = some (.int x n)) : ∃ t, X.mg x = some (.int n t) := by
  rw [C.mg]; exact He.int_ok A.X A.G (A.c.fact i q)
theorem All.str (A : All K mg h) {X : Cx} {W : WX} (C : EC X (E K mg) W) (i : Nat) {x z : Str} (q : fa[i]? = some (.str x z)) : ∃ t, X.mg x = some (.str z t) := by
  rw [C.mg]; exact He.str_ok A.X A.G (A.c.fact i q)
theorem All.exf (A : All K mg h) (i : Nat) {f : PySem.W.Frag → Bool} (q : exl[i]? = some f) : f K = true := List.all_eq_true.mp A.ex f (List.mem_of_getElem? q)
theorem isi_ok (A : All K mg h) : IsiT (E K mg) (ancT isiKs ancL) insL.contains excL.contains := by
  refine ⟨fun a b r q => isiB_ok (e := E K mg) (A.exf 31 rfl) a b r q, fun c hc => ?_, fun c hc => ?_⟩
  · have hc : c ∈ insL := by simpa using hc
    simp only [insL, List.mem_cons, List.not_mem_nil, or_false] at hc
    rcases hc with rfl | rfl
    · exact insB_ok (A.exf 46 rfl)
    · exact insB_ok (A.exf 47 rfl)
  · have hc : c ∈ excL := by simpa using hc
    simp only [excL, List.mem_cons, List.not_mem_nil, or_false] at hc
    rcases hc with rfl | rfl | rfl | rfl | rfl | rfl | rfl | rfl | rfl | rfl | rfl | rfl | rfl | rfl | rfl | rfl | rfl | rfl | rfl | rfl | rfl | rfl | rfl | rfl
    · exact excB_ok (A.exf 32 rfl)
    · exact excB_ok (A.exf 33 rfl)
    · exact excB_ok (A.exf 34 rfl)
    · exact excB_ok (A.exf 8 rfl)
    · exact excB_ok (A.exf 10 rfl)
    · exact excB_ok (A.exf 35 rfl)
    · exact excB_ok (A.exf 0 rfl)
    · exact excB_ok (A.exf 2 rfl)
    · exact excB_ok (A.exf 36 rfl)
    · exact excB_ok (A.exf 4 rfl)
    · exact excB_ok (A.exf 12 rfl)
    · exact excB_ok (A.exf 37 rfl)
    · exact excB_ok (A.exf 38 rfl)
    · exact excB_ok (A.exf 6 rfl)
    · exact excB_ok (A.exf 14 rfl)
    · exact excB_ok (A.exf 16 rfl)
    · exact excB_ok (A.exf 39 rfl)
    · exact excB_ok (A.exf 18 rfl)
    · exact excB_ok (A.exf 40 rfl)
    · exact excB_ok (A.exf 41 rfl)
    · exact excB_ok (A.exf 42 rfl)
    · exact excB_ok (A.exf 43 rfl)
    · exact excB_ok (A.exf 44 rfl)
    · exact excB_ok (A.exf 45 rfl)
theorem exm_ok (A : All K mg h) {k : Nat} (hk : k ∈ exmL) (c : Nat) (b : Bool) (q : catF k c = some b) : PySem.W.exmOne (E K mg).K (.ref ((E K mg).ca c)) (kdV (E K mg) k) = some b := exmB_ok (e := E K mg) (A.exf 48 rfl) hk c b q
theorem tc_WORDS (A : All K mg h) : ∀ G, DR (E K mg) G (.ref (He.ga K "WORDS")) c_WORDS := fun G => .tup (He.tupB_ok (x := "WORDS") (A.exf 24 rfl) G) (.cons (.str _) (.cons (.str _) (.cons (.str _) (.cons (.str _) (.cons (.str _) (.cons (.str _) (.cons (.str _) (.cons (.str _) (.cons (.str _) (.cons (.str _) (.cons (.str _) (.cons (.str _) (.cons (.str _) .nil)))))))))))))
theorem at_number_6_7_9_13 (A : All K mg h) : ∀ c ∈ ([(6, true), (7, true), (9, true), (13, true)] : List (Nat × Bool)), AttOk (E K mg) "number" c.1 c.2 := by
  intro c hc
  simp only [List.mem_cons, List.not_mem_nil, or_false] at hc
  rcases hc with rfl | rfl | rfl | rfl
  · exact attExc (A.exf 0 rfl) (A.exf 1 rfl)
  · exact attExc (A.exf 2 rfl) (A.exf 3 rfl)
  · exact attExc (A.exf 4 rfl) (A.exf 5 rfl)
  · exact attExc (A.exf 6 rfl) (A.exf 7 rfl)
theorem at_thing_3_4_10_14_15_17 (A : All K mg h) : ∀ c ∈ ([(3, true), (4, true), (10, true), (14, true), (15, true), (17, true)] : List (Nat × Bool)), AttOk (E K mg) "thing" c.1 c.2 := by
  intro c hc
  simp only [List.mem_cons, List.not_mem_nil, or_false] at hc
  rcases hc with rfl | rfl | rfl | rfl | rfl | rfl
  · exact attExc (A.exf 8 rfl) (A.exf 9 rfl)
  · exact attExc (A.exf 10 rfl) (A.exf 11 rfl)
  · exact attExc (A.exf 12 rfl) (A.exf 13 rfl)
  · exact attExc (A.exf 14 rfl) (A.exf 15 rfl)
  · exact attExc (A.exf 16 rfl) (A.exf 17 rfl)
  · exact attExc (A.exf 18 rfl) (A.exf 19 rfl)
def N58 : List Str := [("_law_caught" : Str), ("_law_kinds" : Str), ("_law_words" : Str), ("_law_at" : Str), ("_law_families" : Str), ("_law_own" : Str), ("_law_due" : Str)]
abbrev sc58 : Scope := defScope s58
theorem S58 : FnScope N58 [("_law_caught" : Str)] sc58 := ⟨rfl, rfl, rfl, by decide +kernel, rfl, by decide +kernel, by decide +kernel⟩
theorem ok58 (A : All K mg h) : ∃ fd, Ok P w (E K mg) base d58 1 [("_law_caught" : Str)] F58 fd := by
  obtain ⟨fd, FD⟩ := A.c.def_ 21 (d := d58) rfl
  refine ⟨fd, ⟨fnD_ok (N := N58) (g := g58) (k := 0) FD S58 fun X W C cm hP hw hb0 r hX => ?_, FD⟩⟩
  have F : CF X N58 sc58 := by obtain ⟨_, _, _, _, _, _, rfl⟩ := hX; exact ⟨rfl, rfl⟩
  have hb : X.env.blockKind = .function := by obtain ⟨_, _, _, _, _, _, rfl⟩ := hX; rfl
  have hf : ∀ x, X.fn x = true := by obtain ⟨_, _, _, _, _, _, rfl⟩ := hX; intro _; rfl
  have T : At X P w base := ⟨hP, hw, hb0⟩
  clear hX
  exact
   (ss_cons (ssx (i := 1) C F hf (by kernel_rfl) (xx_lst (xad_cons (xd_of (xx_callB (call_isU C.K) (cg_isi (isi_ok A)) (F.g (by kernel_rfl)) (C.gm (A.fre 6 rfl)) (by kernel_rfl) (xa_cons (xo_name (pn F 0 (by kernel_rfl))) (xa_cons (xo_gref (F.g (by kernel_rfl)) (C.gm (A.glo 32 rfl)) (fun _ => .cls 3)) xa_nil)))) (xad_cons (xd_of (xx_callB (call_isU C.K) (cg_isi (isi_ok A)) (F.g (by kernel_rfl)) (C.gm (A.fre 6 rfl)) (by kernel_rfl) (xa_cons (xo_name (pn F 0 (by kernel_rfl))) (xa_cons (xo_gref (F.g (by kernel_rfl)) (C.gm (A.glo 31 rfl)) (fun _ => .cls 4)) xa_nil)))) (xad_cons (xd_of (xx_callB (call_isU C.K) (cg_isi (isi_ok A)) (F.g (by kernel_rfl)) (C.gm (A.fre 6 rfl)) (by kernel_rfl) (xa_cons (xo_name (pn F 0 (by kernel_rfl))) (xa_cons (xo_gref (F.g (by kernel_rfl)) (C.gm (A.glo 30 rfl)) (fun _ => .cls 5)) xa_nil)))) xad_nil)))))
    (ss_cons (ssx (i := 1) C F hf (by kernel_rfl) (xx_bin (op_addU C.K) og_add (xo_name (pn F 1 (by kernel_rfl))) (xo_of (xx_lst (xad_cons (xd_of (xx_callB (call_isU C.K) (cg_isi (isi_ok A)) (F.g (by kernel_rfl)) (C.gm (A.fre 6 rfl)) (by kernel_rfl) (xa_cons (xo_name (pn F 0 (by kernel_rfl))) (xa_cons (xo_gref (F.g (by kernel_rfl)) (C.gm (A.glo 29 rfl)) (fun _ => .cls 6)) xa_nil)))) (xad_cons (xd_of (xx_callB (call_isU C.K) (cg_isi (isi_ok A)) (F.g (by kernel_rfl)) (C.gm (A.fre 6 rfl)) (by kernel_rfl) (xa_cons (xo_name (pn F 0 (by kernel_rfl))) (xa_cons (xo_gref (F.g (by kernel_rfl)) (C.gm (A.glo 28 rfl)) (fun _ => .cls 7)) xa_nil)))) (xad_cons (xd_of (xx_callB (call_isU C.K) (cg_isi (isi_ok A)) (F.g (by kernel_rfl)) (C.gm (A.fre 6 rfl)) (by kernel_rfl) (xa_cons (xo_name (pn F 0 (by kernel_rfl))) (xa_cons (xo_gref (F.g (by kernel_rfl)) (C.gm (A.glo 27 rfl)) (fun _ => .cls 8)) xa_nil)))) xad_nil)))))))
    (ss_cons (ssx (i := 1) C F hf (by kernel_rfl) (xx_bin (op_addU C.K) og_add (xo_name (pn F 1 (by kernel_rfl))) (xo_of (xx_lst (xad_cons (xd_of (xx_callB (call_isU C.K) (cg_isi (isi_ok A)) (F.g (by kernel_rfl)) (C.gm (A.fre 6 rfl)) (by kernel_rfl) (xa_cons (xo_name (pn F 0 (by kernel_rfl))) (xa_cons (xo_gref (F.g (by kernel_rfl)) (C.gm (A.glo 26 rfl)) (fun _ => .cls 9)) xa_nil)))) (xad_cons (xd_of (xx_callB (call_isU C.K) (cg_isi (isi_ok A)) (F.g (by kernel_rfl)) (C.gm (A.fre 6 rfl)) (by kernel_rfl) (xa_cons (xo_name (pn F 0 (by kernel_rfl))) (xa_cons (xo_gref (F.g (by kernel_rfl)) (C.gm (A.glo 25 rfl)) (fun _ => .cls 10)) xa_nil)))) (xad_cons (xd_of (xx_callB (call_isU C.K) (cg_isi (isi_ok A)) (F.g (by kernel_rfl)) (C.gm (A.fre 6 rfl)) (by kernel_rfl) (xa_cons (xo_name (pn F 0 (by kernel_rfl))) (xa_cons (xo_gref (F.g (by kernel_rfl)) (C.gm (A.glo 24 rfl)) (fun _ => .cls 11)) xa_nil)))) xad_nil)))))))
    (ss_cons (ssx (i := 1) C F hf (by kernel_rfl) (xx_bin (op_addU C.K) og_add (xo_name (pn F 1 (by kernel_rfl))) (xo_of (xx_lst (xad_cons (xd_of (xx_callB (call_isU C.K) (cg_isi (isi_ok A)) (F.g (by kernel_rfl)) (C.gm (A.fre 6 rfl)) (by kernel_rfl) (xa_cons (xo_name (pn F 0 (by kernel_rfl))) (xa_cons (xo_gref (F.g (by kernel_rfl)) (C.gm (A.glo 23 rfl)) (fun _ => .cls 12)) xa_nil)))) (xad_cons (xd_of (xx_callB (call_isU C.K) (cg_isi (isi_ok A)) (F.g (by kernel_rfl)) (C.gm (A.fre 6 rfl)) (by kernel_rfl) (xa_cons (xo_name (pn F 0 (by kernel_rfl))) (xa_cons (xo_gref (F.g (by kernel_rfl)) (C.gm (A.glo 22 rfl)) (fun _ => .cls 13)) xa_nil)))) (xad_cons (xd_of (xx_callB (call_isU C.K) (cg_isi (isi_ok A)) (F.g (by kernel_rfl)) (C.gm (A.fre 6 rfl)) (by kernel_rfl) (xa_cons (xo_name (pn F 0 (by kernel_rfl))) (xa_cons (xo_gref (F.g (by kernel_rfl)) (C.gm (A.glo 21 rfl)) (fun _ => .cls 14)) xa_nil)))) xad_nil)))))))
    (ss_cons (ssx (i := 1) C F hf (by kernel_rfl) (xx_bin (op_addU C.K) og_add (xo_name (pn F 1 (by kernel_rfl))) (xo_of (xx_lst (xad_cons (xd_of (xx_callB (call_isU C.K) (cg_isi (isi_ok A)) (F.g (by kernel_rfl)) (C.gm (A.fre 6 rfl)) (by kernel_rfl) (xa_cons (xo_name (pn F 0 (by kernel_rfl))) (xa_cons (xo_gref (F.g (by kernel_rfl)) (C.gm (A.glo 20 rfl)) (fun _ => .cls 15)) xa_nil)))) (xad_cons (xd_of (xx_callB (call_isU C.K) (cg_isi (isi_ok A)) (F.g (by kernel_rfl)) (C.gm (A.fre 6 rfl)) (by kernel_rfl) (xa_cons (xo_name (pn F 0 (by kernel_rfl))) (xa_cons (xo_gref (F.g (by kernel_rfl)) (C.gm (A.glo 19 rfl)) (fun _ => .cls 16)) xa_nil)))) (xad_cons (xd_of (xx_callB (call_isU C.K) (cg_isi (isi_ok A)) (F.g (by kernel_rfl)) (C.gm (A.fre 6 rfl)) (by kernel_rfl) (xa_cons (xo_name (pn F 0 (by kernel_rfl))) (xa_cons (xo_gref (F.g (by kernel_rfl)) (C.gm (A.glo 18 rfl)) (fun _ => .cls 17)) xa_nil)))) xad_nil)))))))
    (ss_cons (ssx (i := 1) C F hf (by kernel_rfl) (xx_bin (op_addU C.K) og_add (xo_name (pn F 1 (by kernel_rfl))) (xo_of (xx_lst (xad_cons (xd_of (xx_callB (call_isU C.K) (cg_isi (isi_ok A)) (F.g (by kernel_rfl)) (C.gm (A.fre 6 rfl)) (by kernel_rfl) (xa_cons (xo_name (pn F 0 (by kernel_rfl))) (xa_cons (xo_gref (F.g (by kernel_rfl)) (C.gm (A.glo 17 rfl)) (fun _ => .cls 18)) xa_nil)))) (xad_cons (xd_of (xx_callB (call_isU C.K) (cg_isi (isi_ok A)) (F.g (by kernel_rfl)) (C.gm (A.fre 6 rfl)) (by kernel_rfl) (xa_cons (xo_name (pn F 0 (by kernel_rfl))) (xa_cons (xo_gref (F.g (by kernel_rfl)) (C.gm (A.glo 16 rfl)) (fun _ => .cls 19)) xa_nil)))) (xad_cons (xd_of (xx_callB (call_isU C.K) (cg_isi (isi_ok A)) (F.g (by kernel_rfl)) (C.gm (A.fre 6 rfl)) (by kernel_rfl) (xa_cons (xo_name (pn F 0 (by kernel_rfl))) (xa_cons (xo_gref (F.g (by kernel_rfl)) (C.gm (A.glo 15 rfl)) (fun _ => .cls 20)) xa_nil)))) xad_nil)))))))
    (ss_cons (ssx (i := 1) C F hf (by kernel_rfl) (xx_bin (op_addU C.K) og_add (xo_name (pn F 1 (by kernel_rfl))) (xo_of (xx_lst (xad_cons (xd_of (xx_callB (call_isU C.K) (cg_isi (isi_ok A)) (F.g (by kernel_rfl)) (C.gm (A.fre 6 rfl)) (by kernel_rfl) (xa_cons (xo_name (pn F 0 (by kernel_rfl))) (xa_cons (xo_gref (F.g (by kernel_rfl)) (C.gm (A.glo 14 rfl)) (fun _ => .cls 21)) xa_nil)))) (xad_cons (xd_of (xx_callB (call_isU C.K) (cg_isi (isi_ok A)) (F.g (by kernel_rfl)) (C.gm (A.fre 6 rfl)) (by kernel_rfl) (xa_cons (xo_name (pn F 0 (by kernel_rfl))) (xa_cons (xo_gref (F.g (by kernel_rfl)) (C.gm (A.glo 13 rfl)) (fun _ => .cls 22)) xa_nil)))) (xad_cons (xd_of (xx_callB (call_isU C.K) (cg_isi (isi_ok A)) (F.g (by kernel_rfl)) (C.gm (A.fre 6 rfl)) (by kernel_rfl) (xa_cons (xo_name (pn F 0 (by kernel_rfl))) (xa_cons (xo_gref (F.g (by kernel_rfl)) (C.gm (A.glo 12 rfl)) (fun _ => .cls 23)) xa_nil)))) xad_nil)))))))
    (ss_cons (ssx (i := 2) C F hf (by kernel_rfl) (xx_lst (xad_cons (xd_op xo_str) (xad_cons (xd_op xo_str) (xad_cons (xd_op xo_str) (xad_cons (xd_op xo_str) (xad_cons (xd_op xo_str) (xad_cons (xd_op xo_str) (xad_cons (xd_op xo_str) (xad_cons (xd_op xo_str) (xad_cons (xd_op xo_str) (xad_cons (xd_op xo_str) (xad_cons (xd_op xo_str) (xad_cons (xd_op xo_str) xad_nil))))))))))))))
    (ss_cons (ssx (i := 2) C F hf (by kernel_rfl) (xx_bin (op_addU C.K) og_add (xo_name (pn F 2 (by kernel_rfl))) (xo_of (xx_lst (xad_cons (xd_op xo_str) (xad_cons (xd_op xo_str) (xad_cons (xd_op xo_str) (xad_cons (xd_op xo_str) (xad_cons (xd_op xo_str) (xad_cons (xd_op xo_str) (xad_cons (xd_op xo_str) (xad_cons (xd_op xo_str) (xad_cons (xd_op xo_str) xad_nil)))))))))))))
    (ss_cons (ss_if (xt_cmp (op_neU C.K (roomU r)) og_ne (xo_of (xx_mt C.K PySem.F.plainAttrs_list PySem.F.slot_list_count rfl (mt_countU C.K) mg_count (xo_name (pn F 1 (by kernel_rfl))) (xa_cons xo_bl xa_nil))) xo_int (nomark _))
    (ss_one (ss_ret (xx_of xo_str)))
    ss_nil)
    (ss_cons (ssx (i := 3) C F hf (by kernel_rfl) (xx_mt C.K PySem.F.plainAttrs_list PySem.F.slot_list_index rfl (mt_indexU C.K) mg_index (xo_name (pn F 1 (by kernel_rfl))) (xa_cons xo_bl xa_nil)))
    (ss_cons (ssx (i := 4) C F hf (by kernel_rfl) (xx_lst (xad_cons (xd_of (xx_callB (call_isU C.K) (cg_isi (isi_ok A)) (F.g (by kernel_rfl)) (C.gm (A.fre 6 rfl)) (by kernel_rfl) (xa_cons (xo_name (pn F 0 (by kernel_rfl))) (xa_cons (xo_gref (F.g (by kernel_rfl)) (C.gm (A.glo 11 rfl)) (fun _ => .cls 0)) xa_nil)))) (xad_cons (xd_of (xx_callB (call_isU C.K) (cg_isi (isi_ok A)) (F.g (by kernel_rfl)) (C.gm (A.fre 6 rfl)) (by kernel_rfl) (xa_cons (xo_name (pn F 0 (by kernel_rfl))) (xa_cons (xo_gref (F.g (by kernel_rfl)) (C.gm (A.glo 10 rfl)) (fun _ => .cls 1)) xa_nil)))) (xad_cons (xd_of (xx_callB (call_isU C.K) (cg_isi (isi_ok A)) (F.g (by kernel_rfl)) (C.gm (A.fre 6 rfl)) (by kernel_rfl) (xa_cons (xo_name (pn F 0 (by kernel_rfl))) (xa_cons (xo_gref (F.g (by kernel_rfl)) (C.gm (A.glo 9 rfl)) (fun _ => .cls 2)) xa_nil)))) xad_nil)))))
    (ss_cons (ssx (i := 5) C F hf (by kernel_rfl) (xx_lst (xad_cons (xd_of (xx_callB (call_isU C.K) (cg_isi (isi_ok A)) (F.g (by kernel_rfl)) (C.gm (A.fre 6 rfl)) (by kernel_rfl) (xa_cons (xo_name (pn F 0 (by kernel_rfl))) (xa_cons (xo_gty (F.g (by kernel_rfl)) (C.gm (A.fre 8 rfl)) (by kernel_rfl)) xa_nil)))) (xad_cons (xd_of (xx_callB (call_isU C.K) (cg_isi (isi_ok A)) (F.g (by kernel_rfl)) (C.gm (A.fre 6 rfl)) (by kernel_rfl) (xa_cons (xo_name (pn F 0 (by kernel_rfl))) (xa_cons (xo_gty (F.g (by kernel_rfl)) (C.gm (A.fre 7 rfl)) (by kernel_rfl)) xa_nil)))) (xad_cons (xd_of (xx_callB (call_isU C.K) (cg_isi (isi_ok A)) (F.g (by kernel_rfl)) (C.gm (A.fre 6 rfl)) (by kernel_rfl) (xa_cons (xo_name (pn F 0 (by kernel_rfl))) (xa_cons (xo_gty (F.g (by kernel_rfl)) (C.gm (A.fre 5 rfl)) (by kernel_rfl)) xa_nil)))) xad_nil)))))
    (ss_cons (ssx (i := 6) C F hf (by kernel_rfl) (xx_lst (xad_cons (xd_of (xx_cmp op_ltU og_cmp (xo_name (pn F 3 (by kernel_rfl))) xo_int (nomark _))) (xad_cons (xd_of (xx_chain op_leU op_ltU og_cmp og_cmp xo_int (xo_name (pn F 3 (by kernel_rfl))) xo_int)) (xad_cons (xd_of (xx_cmp (op_eqU C.K (roomU r)) og_eq (xo_name (pn F 3 (by kernel_rfl))) xo_int (nomark _))) xad_nil)))))
    (ss_one (ss_ret (xx_ix C.K (xo_of (xx_lst (xad_cons (xd_of (xx_ix C.K (xo_name (pn F 2 (by kernel_rfl))) (xo_name (pn F 3 (by kernel_rfl))) (fun _ _ => rfl))) (xad_cons (xd_op xo_str) xad_nil)))) (xo_of (xx_callTy call_int1 cg_int1 (F.g (by kernel_rfl)) (C.gm (A.fre 4 rfl)) (by kernel_rfl) (xa_cons (xo_or C (xo_of (xx_cmp (op_neU C.K (roomU r)) og_ne (xo_name (pn F 4 (by kernel_rfl))) (xo_name (pn F 6 (by kernel_rfl))) (nomark _))) (xo_one (xo_of (xx_cmp (op_neU C.K (roomU r)) og_ne (xo_name (pn F 5 (by kernel_rfl))) (xo_name (pn F 6 (by kernel_rfl))) (nomark _))))) xa_nil))) (fun _ _ => rfl))))))))))))))))))
def N16 : List Str := [("thing" : Str)]
abbrev sc16 : Scope := defScope s16
theorem S16 : FnScope N16 [("thing" : Str)] sc16 := ⟨rfl, rfl, rfl, by decide +kernel, rfl, by decide +kernel, by decide +kernel⟩
theorem ok16 (A : All K mg h) : ∃ fd, Ok P w (E K mg) base d16 1 [("thing" : Str)] F16 fd := by
  obtain ⟨fd, FD⟩ := A.c.def_ 4 (d := d16) rfl
  refine ⟨fd, ⟨fnD_ok (N := N16) (g := g16) (k := 0) FD S16 fun X W C cm hP hw hb0 r hX => ?_, FD⟩⟩
  have F : CF X N16 sc16 := by obtain ⟨_, _, _, _, _, _, rfl⟩ := hX; exact ⟨rfl, rfl⟩
  have hb : X.env.blockKind = .function := by obtain ⟨_, _, _, _, _, _, rfl⟩ := hX; rfl
  have hf : ∀ x, X.fn x = true := by obtain ⟨_, _, _, _, _, _, rfl⟩ := hX; intro _; rfl
  have T : At X P w base := ⟨hP, hw, hb0⟩
  clear hX
  exact
   (ss_one (ss_ret (xx_of (xo_and C (xo_of (xx_callB (call_isU C.K) (cg_isi (isi_ok A)) (F.g (by kernel_rfl)) (C.gm (A.fre 6 rfl)) (by kernel_rfl) (xa_cons (xo_name (pn F 0 (by kernel_rfl))) (xa_cons (xo_gty (F.g (by kernel_rfl)) (C.gm (A.fre 4 rfl)) (by kernel_rfl)) xa_nil)))) (xo_one (xo_of (xx_not C (xo_of (xx_callB (call_isU C.K) (cg_isi (isi_ok A)) (F.g (by kernel_rfl)) (C.gm (A.fre 6 rfl)) (by kernel_rfl) (xa_cons (xo_name (pn F 0 (by kernel_rfl))) (xa_cons (xo_gty (F.g (by kernel_rfl)) (C.gm (A.fre 34 rfl)) (by kernel_rfl)) xa_nil)))))))))))
def N17 : List Str := [("thing" : Str), ("low" : Str), ("high" : Str)]
abbrev sc17 : Scope := defScope s17
theorem S17 : FnScope N17 [("thing" : Str), ("low" : Str), ("high" : Str)] sc17 := ⟨rfl, rfl, rfl, by decide +kernel, rfl, by decide +kernel, by decide +kernel⟩
theorem ok17 (A : All K mg h) : ∃ fd, Ok P w (E K mg) base d17 2 [("thing" : Str), ("low" : Str), ("high" : Str)] F17 fd := by
  obtain ⟨fd, FD⟩ := A.c.def_ 5 (d := d17) rfl
  obtain ⟨fd16, O16⟩ := ok16 (P := P) (w := w) (base := base) A
  have b16_1 : ∃ ds, Vals ([] : List V) ds ∧ Binds (E K mg).K fd16 [("thing" : Str)] ds := ⟨[], .nil, O16.fd.bindsN fun _ _ _ _ _ _ us hl => match us, hl with | [_], _ => rfl⟩
  refine ⟨fd, ⟨fnD_ok (N := N17) (g := g17) (k := 1) FD S17 fun X W C cm hP hw hb0 r hX => ?_, FD⟩⟩
  have F : CF X N17 sc17 := by obtain ⟨_, _, _, _, _, _, rfl⟩ := hX; exact ⟨rfl, rfl⟩
  have hb : X.env.blockKind = .function := by obtain ⟨_, _, _, _, _, _, rfl⟩ := hX; rfl
  have hf : ∀ x, X.fn x = true := by obtain ⟨_, _, _, _, _, _, rfl⟩ := hX; intro _; rfl
  have T : At X P w base := ⟨hP, hw, hb0⟩
  clear hX
  exact
   (ss_one (ss_ret (xx_of (xo_and C (xo_of (xc (k0 := 1) C T r F O16 b16_1 (A.glo 35 rfl) (by decide) (by kernel_rfl) (fun _ => .nil) (xa_cons (xo_name (pn F 0 (by kernel_rfl))) xa_nil) (lenA_cons lenA_nil) rfl)) (xo_one (xo_of (xx_chain op_leU op_leU og_cmp og_cmp (xo_name (pn F 1 (by kernel_rfl))) (xo_name (pn F 0 (by kernel_rfl))) (xo_name (pn F 2 (by kernel_rfl))))))))))
theorem S1 : FnScope [("self" : Str), "thing"] [("self" : Str), "thing"] (defScope s1) := ⟨rfl, rfl, rfl, by decide +kernel, rfl, by decide +kernel, by decide +kernel⟩
theorem ok1 (A : All K mg h) : ∃ fd, OkX P w (E K mg) base d1 1 ((E K mg).ca 4) "thing" "thing" fd := by
  obtain ⟨fd, FD⟩ := A.c.def_ 0 (d := d1) rfl
  exact ⟨fd, exInit_ok (e := E K mg) (k := 0) FD S1 (by kernel_rfl) (by kernel_rfl) (by kernel_rfl) famV (baseB_ok (A.exf 22 rfl)) (A.glo 11 rfl) (oexB_ok (A.exf 21 rfl)) (of_decide_eq_true (A.exf 11 rfl)) (by decide) (by decide) (by decide), FD.bindsN fun _ _ _ _ _ _ us hl => match us, hl with | [_, _], _ => rfl⟩
def N46 : List Str := [("amount" : Str), ("shares" : Str)]
abbrev sc46 : Scope := defScope s46
theorem S46 : FnScope N46 [("amount" : Str), ("shares" : Str)] sc46 := ⟨rfl, rfl, rfl, by decide +kernel, rfl, by decide +kernel, by decide +kernel⟩
theorem ok46 (A : All K mg h) : ∃ fd, Ok P w (E K mg) base d46 3 [("amount" : Str), ("shares" : Str)] F46 fd := by
  obtain ⟨fd, FD⟩ := A.c.def_ 15 (d := d46) rfl
  obtain ⟨fd17, O17⟩ := ok17 (P := P) (w := w) (base := base) A
  have b17_3 : ∃ ds, Vals ([] : List V) ds ∧ Binds (E K mg).K fd17 [("thing" : Str), ("low" : Str), ("high" : Str)] ds := ⟨[], .nil, O17.fd.bindsN fun _ _ _ _ _ _ us hl => match us, hl with | [_, _, _], _ => rfl⟩
  obtain ⟨fd1, O1⟩ := ok1 (P := P) (w := w) (base := base) A
  refine ⟨fd, ⟨fnD_ok (N := N46) (g := g46) (k := 2) FD S46 fun X W C cm hP hw hb0 r hX => ?_, FD⟩⟩
  have F : CF X N46 sc46 := by obtain ⟨_, _, _, _, _, _, rfl⟩ := hX; exact ⟨rfl, rfl⟩
  have hb : X.env.blockKind = .function := by obtain ⟨_, _, _, _, _, _, rfl⟩ := hX; rfl
  have hf : ∀ x, X.fn x = true := by obtain ⟨_, _, _, _, _, _, rfl⟩ := hX; intro _; rfl
  have T : At X P w base := ⟨hP, hw, hb0⟩
  clear hX
  exact
   (ss_cons (ss_if (xt_not (xt_tru C (xo_of (xc (k0 := 2) C T r F O17 b17_3 (A.glo 37 rfl) (by decide) (by kernel_rfl) (fun _ => .nil) (xa_cons (xo_name (pn F 0 (by kernel_rfl))) (xa_cons xo_int (xa_cons (xo_gint (F.g (by kernel_rfl)) (A.int C 36 rfl)) xa_nil))) (lenA_cons (lenA_cons (lenA_cons lenA_nil))) rfl))))
    (ss_one (x1 (k0 := 2) (c := 4) C cm famV T r (A.exf 21 rfl) O1 (A.exf 23 rfl) F (A.glo 31 rfl) (by decide) (by kernel_rfl) (xd_nm (pn F 0 (by kernel_rfl)))))
    ss_nil)
    (ss_cons (ss_if (xt_not (xt_tru C (xo_of xx_bad)))
    (ss_one (x0 (c := 5) C cm famV (A.exf 20 rfl) F (A.glo 30 rfl) (by kernel_rfl)))
    ss_nil)
    (ss_one (ss_ret xx_bad))))
def N18 : List Str := [("thing" : Str), ("sign" : Str)]
abbrev sc18 : Scope := defScope s18
theorem S18 : FnScope N18 [("thing" : Str)] sc18 := ⟨rfl, rfl, rfl, by decide +kernel, rfl, by decide +kernel, by decide +kernel⟩
theorem ok18 (A : All K mg h) : ∃ fd, Ok P w (E K mg) base d18 1 [("thing" : Str)] F18 fd := by
  obtain ⟨fd, FD⟩ := A.c.def_ 6 (d := d18) rfl
  refine ⟨fd, ⟨fnD_ok (N := N18) (g := g18) (k := 0) FD S18 fun X W C cm hP hw hb0 r hX => ?_, FD⟩⟩
  have F : CF X N18 sc18 := by obtain ⟨_, _, _, _, _, _, rfl⟩ := hX; exact ⟨rfl, rfl⟩
  have hb : X.env.blockKind = .function := by obtain ⟨_, _, _, _, _, _, rfl⟩ := hX; rfl
  have hf : ∀ x, X.fn x = true := by obtain ⟨_, _, _, _, _, _, rfl⟩ := hX; intro _; rfl
  have T : At X P w base := ⟨hP, hw, hb0⟩
  clear hX
  exact
   (ss_cons (ss_if (xw_or (xt_not (xt_tru C (xo_of (xx_callB (call_isU C.K) (cg_isi (isi_ok A)) (F.g (by kernel_rfl)) (C.gm (A.fre 6 rfl)) (by kernel_rfl) (xa_cons (xo_name (pn F 0 (by kernel_rfl))) (xa_cons (xo_gty (F.g (by kernel_rfl)) (C.gm (A.fre 45 rfl)) (by kernel_rfl)) xa_nil)))))) (xw_or (xt_not (xt_chain op_leU op_leU og_cmp og_cmp xo_int (xo_of (xx_callB (call_lenU C.K) cg_len (F.g (by kernel_rfl)) (C.gm (A.fre 1 rfl)) (by kernel_rfl) (xa_cons (xo_name (pn F 0 (by kernel_rfl))) xa_nil))) (xo_gint (F.g (by kernel_rfl)) (A.int C 46 rfl)))) (xw_or1 (xt_cmp (op_inU C.K) og_in (xo_name (pn F 0 (by kernel_rfl))) (xo_gref (F.g (by kernel_rfl)) (C.gm (A.glo 47 rfl)) (tc_WORDS A)) (by with_unfolding_all rfl))))).pt
    (ss_one (ss_ret (xx_of xo_bl)))
    ss_nil)
    (ss_one (ss_ret (xx_callB (call_allU C.K cm) cg_all (F.g (by kernel_rfl)) (C.gm (A.fre 44 rfl)) (by kernel_rfl) (xa_cons (xo_of (xx_comp C cm (own := [(("sign" : Str), 1)]) (is := [1]) (xi_any C.K (xd_nm (pn F 0 (by kernel_rfl)))) (F.blk (by kernel_rfl)) (by decide) (fun Y C1 cm1 hY => by
    have F1 := F.subY hY
    have T1 := T.subY hY
    have r1 := roomY r hY
    exact ⟨(sgb C1 F1 1 (by kernel_rfl)), xts_nil, (xx_cmp (op_inU C1.K) og_in (xo_name (pn F1 1 (by kernel_rfl))) (xo_gstr (F1.g (by kernel_rfl)) (A.str C1 43 rfl)) (by with_unfolding_all rfl))⟩))) xa_nil)))))
def N22 : List Str := [("thing" : Str)]
abbrev sc22 : Scope := defScope s22
theorem S22 : FnScope N22 [("thing" : Str)] sc22 := ⟨rfl, rfl, rfl, by decide +kernel, rfl, by decide +kernel, by decide +kernel⟩
theorem ok22 (A : All K mg h) : ∃ fd, Ok P w (E K mg) base d22 3 [("thing" : Str)] F22 fd := by
  obtain ⟨fd, FD⟩ := A.c.def_ 9 (d := d22) rfl
  obtain ⟨fd17, O17⟩ := ok17 (P := P) (w := w) (base := base) A
  have b17_3 : ∃ ds, Vals ([] : List V) ds ∧ Binds (E K mg).K fd17 [("thing" : Str), ("low" : Str), ("high" : Str)] ds := ⟨[], .nil, O17.fd.bindsN fun _ _ _ _ _ _ us hl => match us, hl with | [_, _, _], _ => rfl⟩
  refine ⟨fd, ⟨fnD_ok (N := N22) (g := g22) (k := 2) FD S22 fun X W C cm hP hw hb0 r hX => ?_, FD⟩⟩
  have F : CF X N22 sc22 := by obtain ⟨_, _, _, _, _, _, rfl⟩ := hX; exact ⟨rfl, rfl⟩
  have hb : X.env.blockKind = .function := by obtain ⟨_, _, _, _, _, _, rfl⟩ := hX; rfl
  have hf : ∀ x, X.fn x = true := by obtain ⟨_, _, _, _, _, _, rfl⟩ := hX; intro _; rfl
  have T : At X P w base := ⟨hP, hw, hb0⟩
  clear hX
  exact
   (ss_one (ss_ret (xc (k0 := 2) C T r F O17 b17_3 (A.glo 37 rfl) (by decide) (by kernel_rfl) (fun _ => .nil) (xa_cons (xo_name (pn F 0 (by kernel_rfl))) (xa_cons (xo_of (xx_bin op_subU og_sub xo_int (xo_gint (F.g (by kernel_rfl)) (A.int C 49 rfl)))) (xa_cons (xo_gint (F.g (by kernel_rfl)) (A.int C 49 rfl)) xa_nil))) (lenA_cons (lenA_cons (lenA_cons lenA_nil))) rfl)))
def N47 : List Str := [("thing" : Str)]
abbrev sc47 : Scope := defScope s47
theorem S47 : FnScope N47 [("thing" : Str)] sc47 := ⟨rfl, rfl, rfl, by decide +kernel, rfl, by decide +kernel, by decide +kernel⟩
theorem ok47 (A : All K mg h) : ∃ fd, Ok P w (E K mg) base d47 4 [("thing" : Str)] F47 fd := by
  obtain ⟨fd, FD⟩ := A.c.def_ 16 (d := d47) rfl
  obtain ⟨fd18, O18⟩ := ok18 (P := P) (w := w) (base := base) A
  have b18_1 : ∃ ds, Vals ([] : List V) ds ∧ Binds (E K mg).K fd18 [("thing" : Str)] ds := ⟨[], .nil, O18.fd.bindsN fun _ _ _ _ _ _ us hl => match us, hl with | [_], _ => rfl⟩
  obtain ⟨fd22, O22⟩ := ok22 (P := P) (w := w) (base := base) A
  have b22_1 : ∃ ds, Vals ([] : List V) ds ∧ Binds (E K mg).K fd22 [("thing" : Str)] ds := ⟨[], .nil, O22.fd.bindsN fun _ _ _ _ _ _ us hl => match us, hl with | [_], _ => rfl⟩
  refine ⟨fd, ⟨fnD_ok (N := N47) (g := g47) (k := 3) FD S47 fun X W C cm hP hw hb0 r hX => ?_, FD⟩⟩
  have F : CF X N47 sc47 := by obtain ⟨_, _, _, _, _, _, rfl⟩ := hX; exact ⟨rfl, rfl⟩
  have hb : X.env.blockKind = .function := by obtain ⟨_, _, _, _, _, _, rfl⟩ := hX; rfl
  have hf : ∀ x, X.fn x = true := by obtain ⟨_, _, _, _, _, _, rfl⟩ := hX; intro _; rfl
  have T : At X P w base := ⟨hP, hw, hb0⟩
  clear hX
  exact
   (ss_one (ss_ret (xx_of (xo_and C (xo_of (xx_callB (call_isU C.K) (cg_isi (isi_ok A)) (F.g (by kernel_rfl)) (C.gm (A.fre 6 rfl)) (by kernel_rfl) (xa_cons (xo_name (pn F 0 (by kernel_rfl))) (xa_cons (xo_gty (F.g (by kernel_rfl)) (C.gm (A.fre 42 rfl)) (by kernel_rfl)) xa_nil)))) (xo_and C (xo_of (xx_cmp (op_eqU C.K (roomU r)) og_eq (xo_of (xx_callB (call_lenU C.K) cg_len (F.g (by kernel_rfl)) (C.gm (A.fre 1 rfl)) (by kernel_rfl) (xa_cons (xo_name (pn F 0 (by kernel_rfl))) xa_nil))) xo_int (nomark _))) (xo_and C (xo_of (xc (k0 := 3) C T r F O18 b18_1 (A.glo 48 rfl) (by decide) (by kernel_rfl) (fun _ => .nil) (xa_cons (xo_of (xx_ix C.K (xo_name (pn F 0 (by kernel_rfl))) xo_int (fun _ _ => rfl))) xa_nil) (lenA_cons lenA_nil) rfl)) (xo_one (xo_of (xc (k0 := 3) C T r F O22 b22_1 (A.glo 50 rfl) (by decide) (by kernel_rfl) (fun _ => .nil) (xa_cons (xo_of (xx_ix C.K (xo_name (pn F 0 (by kernel_rfl))) xo_int (fun _ _ => rfl))) xa_nil) (lenA_cons lenA_nil) rfl)))))))))
theorem S5 : FnScope [("self" : Str), "number"] [("self" : Str), "number"] (defScope s5) := ⟨rfl, rfl, rfl, by decide +kernel, rfl, by decide +kernel, by decide +kernel⟩
theorem ok5 (A : All K mg h) : ∃ fd, OkX P w (E K mg) base d5 1 ((E K mg).ca 9) "number" "number" fd := by
  obtain ⟨fd, FD⟩ := A.c.def_ 3 (d := d5) rfl
  exact ⟨fd, exInit_ok (e := E K mg) (k := 0) FD S5 (by kernel_rfl) (by kernel_rfl) (by kernel_rfl) famV (baseB_ok (A.exf 22 rfl)) (A.glo 11 rfl) (oexB_ok (A.exf 25 rfl)) (of_decide_eq_true (A.exf 5 rfl)) (by decide) (by decide) (by decide), FD.bindsN fun _ _ _ _ _ _ us hl => match us, hl with | [_, _], _ => rfl⟩
def N48 : List Str := [("rows" : Str), ("number" : Str), ("row" : Str)]
abbrev sc48 : Scope := defScope s48
theorem S48 : FnScope N48 [("rows" : Str)] sc48 := ⟨rfl, rfl, rfl, by decide +kernel, rfl, by decide +kernel, by decide +kernel⟩
theorem ok48 (A : All K mg h) : ∃ fd, Ok P w (E K mg) base d48 5 [("rows" : Str)] F48 fd := by
  obtain ⟨fd, FD⟩ := A.c.def_ 17 (d := d48) rfl
  obtain ⟨fd47, O47⟩ := ok47 (P := P) (w := w) (base := base) A
  have b47_1 : ∃ ds, Vals ([] : List V) ds ∧ Binds (E K mg).K fd47 [("thing" : Str)] ds := ⟨[], .nil, O47.fd.bindsN fun _ _ _ _ _ _ us hl => match us, hl with | [_], _ => rfl⟩
  obtain ⟨fd5, O5⟩ := ok5 (P := P) (w := w) (base := base) A
  refine ⟨fd, ⟨fnD_ok (N := N48) (g := g48) (k := 4) FD S48 fun X W C cm hP hw hb0 r hX => ?_, FD⟩⟩
  have F : CF X N48 sc48 := by obtain ⟨_, _, _, _, _, _, rfl⟩ := hX; exact ⟨rfl, rfl⟩
  have hb : X.env.blockKind = .function := by obtain ⟨_, _, _, _, _, _, rfl⟩ := hX; rfl
  have hf : ∀ x, X.fn x = true := by obtain ⟨_, _, _, _, _, _, rfl⟩ := hX; intro _; rfl
  have T : At X P w base := ⟨hP, hw, hb0⟩
  clear hX
  exact
   (ss_cons (ss_if (xw_or (xt_not (xt_tru C (xo_of (xx_callB (call_isU C.K) (cg_isi (isi_ok A)) (F.g (by kernel_rfl)) (C.gm (A.fre 6 rfl)) (by kernel_rfl) (xa_cons (xo_name (pn F 0 (by kernel_rfl))) (xa_cons (xo_gty (F.g (by kernel_rfl)) (C.gm (A.fre 42 rfl)) (by kernel_rfl)) xa_nil)))))) (xw_or1 (xt_cmp op_gtU og_cmp (xo_of (xx_callB (call_lenU C.K) cg_len (F.g (by kernel_rfl)) (C.gm (A.fre 1 rfl)) (by kernel_rfl) (xa_cons (xo_name (pn F 0 (by kernel_rfl))) xa_nil))) (xo_gint (F.g (by kernel_rfl)) (A.int C 52 rfl)) (nomark _)))).pt
    (ss_one (x1 (k0 := 4) (c := 9) C cm famV T r (A.exf 25 rfl) O5 (A.exf 26 rfl) F (A.glo 26 rfl) (by decide) (by kernel_rfl) (xd_op xo_non)))
    ss_nil)
    (ss_one (ss_for C cm (xi_enum C (F.g (by kernel_rfl)) (C.gm (A.fre 41 rfl)) (xd_nm (pn F 0 (by kernel_rfl)))) (sg_tup C.K cm (sg_cons (sgx C F hf 1 (by kernel_rfl)) (sg_cons (sgx C F hf 2 (by kernel_rfl)) sg_nil)))
    (ss_one (ss_if (xw_or (xt_not (xt_tru C (xo_of (xc (k0 := 4) C T r F O47 b47_1 (A.glo 51 rfl) (by decide) (by kernel_rfl) (fun _ => .nil) (xa_cons (xo_name (pn F 2 (by kernel_rfl))) xa_nil) (lenA_cons lenA_nil) rfl)))) (xw_or1 (xw_and (xt_cmp op_gtU og_cmp (xo_name (pn F 1 (by kernel_rfl))) xo_int (nomark _)) (xw_and1 (xt_cmp op_geU og_cmp (xo_of (xx_ix C.K (xo_of (xx_ix C.K (xo_name (pn F 0 (by kernel_rfl))) (xo_of (xx_bin op_subU og_sub (xo_name (pn F 1 (by kernel_rfl))) xo_int)) (fun _ _ => rfl))) xo_int (fun _ _ => rfl))) (xo_of (xx_ix C.K (xo_name (pn F 2 (by kernel_rfl))) xo_int (fun _ _ => rfl))) (nomark _)))).pt)).pt
    (ss_one (x1 (k0 := 4) (c := 9) C cm famV T r (A.exf 25 rfl) O5 (A.exf 26 rfl) F (A.glo 26 rfl) (by decide) (by kernel_rfl) (xd_nm (pn F 1 (by kernel_rfl)))))
    ss_nil)))))
def N49 : List Str := [("self" : Str), ("deaths" : Str)]
abbrev sc49 : Scope := defScope s49
theorem S49 : FnScope N49 [("self" : Str), ("deaths" : Str)] sc49 := ⟨rfl, rfl, rfl, by decide +kernel, rfl, by decide +kernel, by decide +kernel⟩
theorem ok49 (A : All K mg h) : ∃ fd, Ok P w (E K mg) base d49 6 [("self" : Str), ("deaths" : Str)] F49 fd := by
  obtain ⟨fd, FD⟩ := A.c.def_ 18 (d := d49) rfl
  obtain ⟨fd48, O48⟩ := ok48 (P := P) (w := w) (base := base) A
  have b48_1 : ∃ ds, Vals ([] : List V) ds ∧ Binds (E K mg).K fd48 [("rows" : Str)] ds := ⟨[], .nil, O48.fd.bindsN fun _ _ _ _ _ _ us hl => match us, hl with | [_], _ => rfl⟩
  refine ⟨fd, ⟨fnD_ok (N := N49) (g := g49) (k := 5) FD S49 fun X W C cm hP hw hb0 r hX => ?_, FD⟩⟩
  have F : CF X N49 sc49 := by obtain ⟨_, _, _, _, _, _, rfl⟩ := hX; exact ⟨rfl, rfl⟩
  have hb : X.env.blockKind = .function := by obtain ⟨_, _, _, _, _, _, rfl⟩ := hX; rfl
  have hf : ∀ x, X.fn x = true := by obtain ⟨_, _, _, _, _, _, rfl⟩ := hX; intro _; rfl
  have T : At X P w base := ⟨hP, hw, hb0⟩
  clear hX
  exact
   (ss_cons (ssx (i := 1) C F hf (by kernel_rfl) (xx_ifE (xt_cmp op_isN og_is (xo_name (pn F 1 (by kernel_rfl))) xo_non (nomark _)) (xx_tup xad_nil) (xx_mv (pn F 1 (by kernel_rfl)))))
    (ss_cons (ss_expr (xc (k0 := 5) C T r F O48 b48_1 (A.glo 53 rfl) (by decide) (by kernel_rfl) (fun _ => .nil) (xa_cons (xo_name (pn F 1 (by kernel_rfl))) xa_nil) (lenA_cons lenA_nil) rfl))
    (ss_one (ss_fld C (He.cls_ok (A.c.fact 39 rfl)) (He.noat_ok (A.c.fact 40 rfl)) (pn F 0 (by kernel_rfl)) (xd_nm (pn F 1 (by kernel_rfl)))))))
def N20 : List Str := [("thing" : Str)]
abbrev sc20 : Scope := defScope s20
theorem S20 : FnScope N20 [("thing" : Str)] sc20 := ⟨rfl, rfl, rfl, by decide +kernel, rfl, by decide +kernel, by decide +kernel⟩
theorem ok20 (A : All K mg h) : ∃ fd, Ok P w (E K mg) base d20 3 [("thing" : Str)] F20 fd := by
  obtain ⟨fd, FD⟩ := A.c.def_ 7 (d := d20) rfl
  obtain ⟨fd17, O17⟩ := ok17 (P := P) (w := w) (base := base) A
  have b17_3 : ∃ ds, Vals ([] : List V) ds ∧ Binds (E K mg).K fd17 [("thing" : Str), ("low" : Str), ("high" : Str)] ds := ⟨[], .nil, O17.fd.bindsN fun _ _ _ _ _ _ us hl => match us, hl with | [_, _, _], _ => rfl⟩
  refine ⟨fd, ⟨fnD_ok (N := N20) (g := g20) (k := 2) FD S20 fun X W C cm hP hw hb0 r hX => ?_, FD⟩⟩
  have F : CF X N20 sc20 := by obtain ⟨_, _, _, _, _, _, rfl⟩ := hX; exact ⟨rfl, rfl⟩
  have hb : X.env.blockKind = .function := by obtain ⟨_, _, _, _, _, _, rfl⟩ := hX; rfl
  have hf : ∀ x, X.fn x = true := by obtain ⟨_, _, _, _, _, _, rfl⟩ := hX; intro _; rfl
  have T : At X P w base := ⟨hP, hw, hb0⟩
  clear hX
  exact
   (ss_one (ss_ret (xc (k0 := 2) C T r F O17 b17_3 (A.glo 37 rfl) (by decide) (by kernel_rfl) (fun _ => .nil) (xa_cons (xo_name (pn F 0 (by kernel_rfl))) (xa_cons xo_int (xa_cons (xo_gint (F.g (by kernel_rfl)) (A.int C 61 rfl)) xa_nil))) (lenA_cons (lenA_cons (lenA_cons lenA_nil))) rfl)))
def N21 : List Str := [("thing" : Str)]
abbrev sc21 : Scope := defScope s21
theorem S21 : FnScope N21 [("thing" : Str)] sc21 := ⟨rfl, rfl, rfl, by decide +kernel, rfl, by decide +kernel, by decide +kernel⟩
theorem ok21 (A : All K mg h) : ∃ fd, Ok P w (E K mg) base d21 4 [("thing" : Str)] F21 fd := by
  obtain ⟨fd, FD⟩ := A.c.def_ 8 (d := d21) rfl
  obtain ⟨fd20, O20⟩ := ok20 (P := P) (w := w) (base := base) A
  have b20_1 : ∃ ds, Vals ([] : List V) ds ∧ Binds (E K mg).K fd20 [("thing" : Str)] ds := ⟨[], .nil, O20.fd.bindsN fun _ _ _ _ _ _ us hl => match us, hl with | [_], _ => rfl⟩
  obtain ⟨fd1, O1⟩ := ok1 (P := P) (w := w) (base := base) A
  refine ⟨fd, ⟨fnD_ok (N := N21) (g := g21) (k := 3) FD S21 fun X W C cm hP hw hb0 r hX => ?_, FD⟩⟩
  have F : CF X N21 sc21 := by obtain ⟨_, _, _, _, _, _, rfl⟩ := hX; exact ⟨rfl, rfl⟩
  have hb : X.env.blockKind = .function := by obtain ⟨_, _, _, _, _, _, rfl⟩ := hX; rfl
  have hf : ∀ x, X.fn x = true := by obtain ⟨_, _, _, _, _, _, rfl⟩ := hX; intro _; rfl
  have T : At X P w base := ⟨hP, hw, hb0⟩
  clear hX
  exact
   (ss_one (ss_if (xt_not (xt_tru C (xo_of (xc (k0 := 3) C T r F O20 b20_1 (A.glo 62 rfl) (by decide) (by kernel_rfl) (fun _ => .nil) (xa_cons (xo_name (pn F 0 (by kernel_rfl))) xa_nil) (lenA_cons lenA_nil) rfl))))
    (ss_one (x1 (k0 := 3) (c := 4) C cm famV T r (A.exf 21 rfl) O1 (A.exf 23 rfl) F (A.glo 31 rfl) (by decide) (by kernel_rfl) (xd_nm (pn F 0 (by kernel_rfl)))))
    ss_nil))
def N26 : List Str := [("row" : Str), ("ahead" : Str)]
abbrev sc26 : Scope := defScope s26
theorem S26 : FnScope N26 [("row" : Str), ("ahead" : Str)] sc26 := ⟨rfl, rfl, rfl, by decide +kernel, rfl, by decide +kernel, by decide +kernel⟩
theorem ok26 (A : All K mg h) : ∃ fd, Ok P w (E K mg) base d26 4 [("row" : Str), ("ahead" : Str)] F26 fd := by
  obtain ⟨fd, FD⟩ := A.c.def_ 12 (d := d26) rfl
  obtain ⟨fd18, O18⟩ := ok18 (P := P) (w := w) (base := base) A
  have b18_1 : ∃ ds, Vals ([] : List V) ds ∧ Binds (E K mg).K fd18 [("thing" : Str)] ds := ⟨[], .nil, O18.fd.bindsN fun _ _ _ _ _ _ us hl => match us, hl with | [_], _ => rfl⟩
  obtain ⟨fd20, O20⟩ := ok20 (P := P) (w := w) (base := base) A
  have b20_1 : ∃ ds, Vals ([] : List V) ds ∧ Binds (E K mg).K fd20 [("thing" : Str)] ds := ⟨[], .nil, O20.fd.bindsN fun _ _ _ _ _ _ us hl => match us, hl with | [_], _ => rfl⟩
  refine ⟨fd, ⟨fnD_ok (N := N26) (g := g26) (k := 3) FD S26 fun X W C cm hP hw hb0 r hX => ?_, FD⟩⟩
  have F : CF X N26 sc26 := by obtain ⟨_, _, _, _, _, _, rfl⟩ := hX; exact ⟨rfl, rfl⟩
  have hb : X.env.blockKind = .function := by obtain ⟨_, _, _, _, _, _, rfl⟩ := hX; rfl
  have hf : ∀ x, X.fn x = true := by obtain ⟨_, _, _, _, _, _, rfl⟩ := hX; intro _; rfl
  have T : At X P w base := ⟨hP, hw, hb0⟩
  clear hX
  exact
   (ss_cons (ss_if (xw_or (xt_not (xt_tru C (xo_of (xx_callB (call_isU C.K) (cg_isi (isi_ok A)) (F.g (by kernel_rfl)) (C.gm (A.fre 6 rfl)) (by kernel_rfl) (xa_cons (xo_name (pn F 0 (by kernel_rfl))) (xa_cons (xo_gty (F.g (by kernel_rfl)) (C.gm (A.fre 42 rfl)) (by kernel_rfl)) xa_nil)))))) (xw_or (xt_cmp (op_neU C.K (roomU r)) og_ne (xo_of (xx_callB (call_lenU C.K) cg_len (F.g (by kernel_rfl)) (C.gm (A.fre 1 rfl)) (by kernel_rfl) (xa_cons (xo_name (pn F 0 (by kernel_rfl))) xa_nil))) xo_int (nomark _)) (xw_or (xt_not (xt_tru C (xo_of (xc (k0 := 3) C T r F O18 b18_1 (A.glo 48 rfl) (by decide) (by kernel_rfl) (fun _ => .nil) (xa_cons (xo_of (xx_ix C.K (xo_name (pn F 0 (by kernel_rfl))) xo_int (fun _ _ => rfl))) xa_nil) (lenA_cons lenA_nil) rfl)))) (xw_or1 (xt_cmp (op_inU C.K) og_in (xo_of (xx_ix C.K (xo_name (pn F 0 (by kernel_rfl))) xo_int (fun _ _ => rfl))) (xo_name (pn F 1 (by kernel_rfl))) (by with_unfolding_all rfl)))))).pt
    (ss_one (ss_ret (xx_of xo_bl)))
    ss_nil)
    (ss_one (ss_ret (xx_of (xo_and C (xo_of (xc (k0 := 3) C T r F O18 b18_1 (A.glo 48 rfl) (by decide) (by kernel_rfl) (fun _ => .nil) (xa_cons (xo_of (xx_ix C.K (xo_name (pn F 0 (by kernel_rfl))) xo_int (fun _ _ => rfl))) xa_nil) (lenA_cons lenA_nil) rfl)) (xo_one (xo_of (xc (k0 := 3) C T r F O20 b20_1 (A.glo 62 rfl) (by decide) (by kernel_rfl) (fun _ => .nil) (xa_cons (xo_of (xx_ix C.K (xo_name (pn F 0 (by kernel_rfl))) xo_int (fun _ _ => rfl))) xa_nil) (lenA_cons lenA_nil) rfl))))))))
theorem S3 : FnScope [("self" : Str), "number"] [("self" : Str), "number"] (defScope s3) := ⟨rfl, rfl, rfl, by decide +kernel, rfl, by decide +kernel, by decide +kernel⟩
theorem ok3 (A : All K mg h) : ∃ fd, OkX P w (E K mg) base d3 1 ((E K mg).ca 7) "number" "number" fd := by
  obtain ⟨fd, FD⟩ := A.c.def_ 2 (d := d3) rfl
  exact ⟨fd, exInit_ok (e := E K mg) (k := 0) FD S3 (by kernel_rfl) (by kernel_rfl) (by kernel_rfl) famV (baseB_ok (A.exf 22 rfl)) (A.glo 11 rfl) (oexB_ok (A.exf 27 rfl)) (of_decide_eq_true (A.exf 3 rfl)) (by decide) (by decide) (by decide), FD.bindsN fun _ _ _ _ _ _ us hl => match us, hl with | [_, _], _ => rfl⟩
def N27 : List Str := [("rows" : Str), ("ahead" : Str), ("number" : Str), ("row" : Str)]
abbrev sc27 : Scope := defScope s27
theorem S27 : FnScope N27 [("rows" : Str)] sc27 := ⟨rfl, rfl, rfl, by decide +kernel, rfl, by decide +kernel, by decide +kernel⟩
theorem ok27 (A : All K mg h) : ∃ fd, Ok P w (E K mg) base d27 5 [("rows" : Str)] F27 fd := by
  obtain ⟨fd, FD⟩ := A.c.def_ 13 (d := d27) rfl
  obtain ⟨fd26, O26⟩ := ok26 (P := P) (w := w) (base := base) A
  have b26_2 : ∃ ds, Vals ([] : List V) ds ∧ Binds (E K mg).K fd26 [("row" : Str), ("ahead" : Str)] ds := ⟨[], .nil, O26.fd.bindsN fun _ _ _ _ _ _ us hl => match us, hl with | [_, _], _ => rfl⟩
  obtain ⟨fd3, O3⟩ := ok3 (P := P) (w := w) (base := base) A
  refine ⟨fd, ⟨fnD_ok (N := N27) (g := g27) (k := 4) FD S27 fun X W C cm hP hw hb0 r hX => ?_, FD⟩⟩
  have F : CF X N27 sc27 := by obtain ⟨_, _, _, _, _, _, rfl⟩ := hX; exact ⟨rfl, rfl⟩
  have hb : X.env.blockKind = .function := by obtain ⟨_, _, _, _, _, _, rfl⟩ := hX; rfl
  have hf : ∀ x, X.fn x = true := by obtain ⟨_, _, _, _, _, _, rfl⟩ := hX; intro _; rfl
  have T : At X P w base := ⟨hP, hw, hb0⟩
  clear hX
  exact
   (ss_cons (ss_if (xw_or (xt_not (xt_tru C (xo_of (xx_callB (call_isU C.K) (cg_isi (isi_ok A)) (F.g (by kernel_rfl)) (C.gm (A.fre 6 rfl)) (by kernel_rfl) (xa_cons (xo_name (pn F 0 (by kernel_rfl))) (xa_cons (xo_gty (F.g (by kernel_rfl)) (C.gm (A.fre 42 rfl)) (by kernel_rfl)) xa_nil)))))) (xw_or1 (xt_cmp op_gtU og_cmp (xo_of (xx_callB (call_lenU C.K) cg_len (F.g (by kernel_rfl)) (C.gm (A.fre 1 rfl)) (by kernel_rfl) (xa_cons (xo_name (pn F 0 (by kernel_rfl))) xa_nil))) (xo_gint (F.g (by kernel_rfl)) (A.int C 65 rfl)) (nomark _)))).pt
    (ss_one (x1 (k0 := 4) (c := 7) C cm famV T r (A.exf 27 rfl) O3 (A.exf 28 rfl) F (A.glo 28 rfl) (by decide) (by kernel_rfl) (xd_op xo_non)))
    ss_nil)
    (ss_cons (ssx (i := 1) C F hf (by kernel_rfl) (xx_lst xad_nil))
    (ss_one (ss_for C cm (xi_enum C (F.g (by kernel_rfl)) (C.gm (A.fre 41 rfl)) (xd_nm (pn F 0 (by kernel_rfl)))) (sg_tup C.K cm (sg_cons (sgx C F hf 2 (by kernel_rfl)) (sg_cons (sgx C F hf 3 (by kernel_rfl)) sg_nil)))
    (ss_cons (ss_if (xt_not (xt_tru C (xo_of (xc (k0 := 4) C T r F O26 b26_2 (A.glo 64 rfl) (by decide) (by kernel_rfl) (fun _ => .nil) (xa_cons (xo_name (pn F 3 (by kernel_rfl))) (xa_cons (xo_name (pn F 1 (by kernel_rfl))) xa_nil)) (lenA_cons (lenA_cons lenA_nil)) rfl))))
    (ss_one (x1 (k0 := 4) (c := 7) C cm famV T r (A.exf 27 rfl) O3 (A.exf 28 rfl) F (A.glo 28 rfl) (by decide) (by kernel_rfl) (xd_nm (pn F 2 (by kernel_rfl)))))
    ss_nil)
    (ss_one (ss_expr (xx_mu PySem.F.slot_list_append rfl mt_append mg_append (pn F 1 (by kernel_rfl)) (xad_cons (xd_of (xx_ix C.K (xo_name (pn F 3 (by kernel_rfl))) xo_int (fun _ _ => rfl))) xad_nil)))))))))
def N24 : List Str := [("row" : Str), ("ahead" : Str)]
abbrev sc24 : Scope := defScope s24
theorem S24 : FnScope N24 [("row" : Str), ("ahead" : Str)] sc24 := ⟨rfl, rfl, rfl, by decide +kernel, rfl, by decide +kernel, by decide +kernel⟩
theorem ok24 (A : All K mg h) : ∃ fd, Ok P w (E K mg) base d24 2 [("row" : Str), ("ahead" : Str)] F24 fd := by
  obtain ⟨fd, FD⟩ := A.c.def_ 10 (d := d24) rfl
  obtain ⟨fd18, O18⟩ := ok18 (P := P) (w := w) (base := base) A
  have b18_1 : ∃ ds, Vals ([] : List V) ds ∧ Binds (E K mg).K fd18 [("thing" : Str)] ds := ⟨[], .nil, O18.fd.bindsN fun _ _ _ _ _ _ us hl => match us, hl with | [_], _ => rfl⟩
  refine ⟨fd, ⟨fnD_ok (N := N24) (g := g24) (k := 1) FD S24 fun X W C cm hP hw hb0 r hX => ?_, FD⟩⟩
  have F : CF X N24 sc24 := by obtain ⟨_, _, _, _, _, _, rfl⟩ := hX; exact ⟨rfl, rfl⟩
  have hb : X.env.blockKind = .function := by obtain ⟨_, _, _, _, _, _, rfl⟩ := hX; rfl
  have hf : ∀ x, X.fn x = true := by obtain ⟨_, _, _, _, _, _, rfl⟩ := hX; intro _; rfl
  have T : At X P w base := ⟨hP, hw, hb0⟩
  clear hX
  exact
   (ss_cons (ss_if (xw_or (xt_not (xt_tru C (xo_of (xx_callB (call_isU C.K) (cg_isi (isi_ok A)) (F.g (by kernel_rfl)) (C.gm (A.fre 6 rfl)) (by kernel_rfl) (xa_cons (xo_name (pn F 0 (by kernel_rfl))) (xa_cons (xo_gty (F.g (by kernel_rfl)) (C.gm (A.fre 42 rfl)) (by kernel_rfl)) xa_nil)))))) (xw_or (xt_cmp (op_neU C.K (roomU r)) og_ne (xo_of (xx_callB (call_lenU C.K) cg_len (F.g (by kernel_rfl)) (C.gm (A.fre 1 rfl)) (by kernel_rfl) (xa_cons (xo_name (pn F 0 (by kernel_rfl))) xa_nil))) xo_int (nomark _)) (xw_or (xt_not (xt_tru C (xo_of (xc (k0 := 1) C T r F O18 b18_1 (A.glo 48 rfl) (by decide) (by kernel_rfl) (fun _ => .nil) (xa_cons (xo_of (xx_ix C.K (xo_name (pn F 0 (by kernel_rfl))) xo_int (fun _ _ => rfl))) xa_nil) (lenA_cons lenA_nil) rfl)))) (xw_or1 (xt_cmp (op_inU C.K) og_in (xo_of (xx_ix C.K (xo_name (pn F 0 (by kernel_rfl))) xo_int (fun _ _ => rfl))) (xo_name (pn F 1 (by kernel_rfl))) (by with_unfolding_all rfl)))))).pt
    (ss_one (ss_ret (xx_of xo_bl)))
    ss_nil)
    (ss_one (ss_ret (xx_of (xo_or C (xo_of (xx_cmp op_isN og_is (xo_of (xx_ix C.K (xo_name (pn F 0 (by kernel_rfl))) xo_int (fun _ _ => rfl))) xo_non (nomark _))) (xo_one (xo_and C (xo_of (xc (k0 := 1) C T r F O18 b18_1 (A.glo 48 rfl) (by decide) (by kernel_rfl) (fun _ => .nil) (xa_cons (xo_of (xx_ix C.K (xo_name (pn F 0 (by kernel_rfl))) xo_int (fun _ _ => rfl))) xa_nil) (lenA_cons lenA_nil) rfl)) (xo_one (xo_of (xx_cmp (op_inU C.K) og_in (xo_of (xx_ix C.K (xo_name (pn F 0 (by kernel_rfl))) xo_int (fun _ _ => rfl))) (xo_name (pn F 1 (by kernel_rfl))) (by with_unfolding_all rfl)))))))))))
theorem S2 : FnScope [("self" : Str), "number"] [("self" : Str), "number"] (defScope s2) := ⟨rfl, rfl, rfl, by decide +kernel, rfl, by decide +kernel, by decide +kernel⟩
theorem ok2 (A : All K mg h) : ∃ fd, OkX P w (E K mg) base d2 1 ((E K mg).ca 6) "number" "number" fd := by
  obtain ⟨fd, FD⟩ := A.c.def_ 1 (d := d2) rfl
  exact ⟨fd, exInit_ok (e := E K mg) (k := 0) FD S2 (by kernel_rfl) (by kernel_rfl) (by kernel_rfl) famV (baseB_ok (A.exf 22 rfl)) (A.glo 11 rfl) (oexB_ok (A.exf 29 rfl)) (of_decide_eq_true (A.exf 1 rfl)) (by decide) (by decide) (by decide), FD.bindsN fun _ _ _ _ _ _ us hl => match us, hl with | [_, _], _ => rfl⟩
def N25 : List Str := [("rows" : Str), ("ahead" : Str), ("number" : Str), ("row" : Str)]
abbrev sc25 : Scope := defScope s25
theorem S25 : FnScope N25 [("rows" : Str)] sc25 := ⟨rfl, rfl, rfl, by decide +kernel, rfl, by decide +kernel, by decide +kernel⟩
theorem ok25 (A : All K mg h) : ∃ fd, Ok P w (E K mg) base d25 3 [("rows" : Str)] F25 fd := by
  obtain ⟨fd, FD⟩ := A.c.def_ 11 (d := d25) rfl
  obtain ⟨fd24, O24⟩ := ok24 (P := P) (w := w) (base := base) A
  have b24_2 : ∃ ds, Vals ([] : List V) ds ∧ Binds (E K mg).K fd24 [("row" : Str), ("ahead" : Str)] ds := ⟨[], .nil, O24.fd.bindsN fun _ _ _ _ _ _ us hl => match us, hl with | [_, _], _ => rfl⟩
  obtain ⟨fd2, O2⟩ := ok2 (P := P) (w := w) (base := base) A
  refine ⟨fd, ⟨fnD_ok (N := N25) (g := g25) (k := 2) FD S25 fun X W C cm hP hw hb0 r hX => ?_, FD⟩⟩
  have F : CF X N25 sc25 := by obtain ⟨_, _, _, _, _, _, rfl⟩ := hX; exact ⟨rfl, rfl⟩
  have hb : X.env.blockKind = .function := by obtain ⟨_, _, _, _, _, _, rfl⟩ := hX; rfl
  have hf : ∀ x, X.fn x = true := by obtain ⟨_, _, _, _, _, _, rfl⟩ := hX; intro _; rfl
  have T : At X P w base := ⟨hP, hw, hb0⟩
  clear hX
  exact
   (ss_cons (ss_if (xw_or (xt_not (xt_tru C (xo_of (xx_callB (call_isU C.K) (cg_isi (isi_ok A)) (F.g (by kernel_rfl)) (C.gm (A.fre 6 rfl)) (by kernel_rfl) (xa_cons (xo_name (pn F 0 (by kernel_rfl))) (xa_cons (xo_gty (F.g (by kernel_rfl)) (C.gm (A.fre 42 rfl)) (by kernel_rfl)) xa_nil)))))) (xw_or1 (xt_not (xt_chain op_leU op_leU og_cmp og_cmp xo_int (xo_of (xx_callB (call_lenU C.K) cg_len (F.g (by kernel_rfl)) (C.gm (A.fre 1 rfl)) (by kernel_rfl) (xa_cons (xo_name (pn F 0 (by kernel_rfl))) xa_nil))) (xo_gint (F.g (by kernel_rfl)) (A.int C 68 rfl)))))).pt
    (ss_one (x1 (k0 := 2) (c := 6) C cm famV T r (A.exf 29 rfl) O2 (A.exf 30 rfl) F (A.glo 29 rfl) (by decide) (by kernel_rfl) (xd_op xo_non)))
    ss_nil)
    (ss_cons (ssx (i := 1) C F hf (by kernel_rfl) (xx_lst xad_nil))
    (ss_one (ss_for C cm (xi_enum C (F.g (by kernel_rfl)) (C.gm (A.fre 41 rfl)) (xd_nm (pn F 0 (by kernel_rfl)))) (sg_tup C.K cm (sg_cons (sgx C F hf 2 (by kernel_rfl)) (sg_cons (sgx C F hf 3 (by kernel_rfl)) sg_nil)))
    (ss_cons (ss_if (xt_not (xt_tru C (xo_of (xc (k0 := 2) C T r F O24 b24_2 (A.glo 67 rfl) (by decide) (by kernel_rfl) (fun _ => .nil) (xa_cons (xo_name (pn F 3 (by kernel_rfl))) (xa_cons (xo_name (pn F 1 (by kernel_rfl))) xa_nil)) (lenA_cons (lenA_cons lenA_nil)) rfl))))
    (ss_one (x1 (k0 := 2) (c := 6) C cm famV T r (A.exf 29 rfl) O2 (A.exf 30 rfl) F (A.glo 29 rfl) (by decide) (by kernel_rfl) (xd_nm (pn F 2 (by kernel_rfl)))))
    ss_nil)
    (ss_one (ss_expr (xx_mu PySem.F.slot_list_append rfl mt_append mg_append (pn F 1 (by kernel_rfl)) (xad_cons (xd_of (xx_ix C.K (xo_name (pn F 3 (by kernel_rfl))) xo_int (fun _ _ => rfl))) xad_nil)))))))))
def N28 : List Str := [("self" : Str), ("people" : Str), ("goods" : Str), ("purse" : Str), ("debts" : Str)]
abbrev sc28 : Scope := defScope s28
theorem S28 : FnScope N28 [("self" : Str), ("people" : Str), ("goods" : Str), ("purse" : Str), ("debts" : Str)] sc28 := ⟨rfl, rfl, rfl, by decide +kernel, rfl, by decide +kernel, by decide +kernel⟩
theorem ok28 (A : All K mg h) : ∃ fd, Ok P w (E K mg) base d28 6 [("self" : Str), ("people" : Str), ("goods" : Str), ("purse" : Str), ("debts" : Str)] F28 fd := by
  obtain ⟨fd, FD⟩ := A.c.def_ 14 (d := d28) rfl
  obtain ⟨fd21, O21⟩ := ok21 (P := P) (w := w) (base := base) A
  have b21_1 : ∃ ds, Vals ([] : List V) ds ∧ Binds (E K mg).K fd21 [("thing" : Str)] ds := ⟨[], .nil, O21.fd.bindsN fun _ _ _ _ _ _ us hl => match us, hl with | [_], _ => rfl⟩
  obtain ⟨fd27, O27⟩ := ok27 (P := P) (w := w) (base := base) A
  have b27_1 : ∃ ds, Vals ([] : List V) ds ∧ Binds (E K mg).K fd27 [("rows" : Str)] ds := ⟨[], .nil, O27.fd.bindsN fun _ _ _ _ _ _ us hl => match us, hl with | [_], _ => rfl⟩
  obtain ⟨fd25, O25⟩ := ok25 (P := P) (w := w) (base := base) A
  have b25_1 : ∃ ds, Vals ([] : List V) ds ∧ Binds (E K mg).K fd25 [("rows" : Str)] ds := ⟨[], .nil, O25.fd.bindsN fun _ _ _ _ _ _ us hl => match us, hl with | [_], _ => rfl⟩
  refine ⟨fd, ⟨fnD_ok (N := N28) (g := g28) (k := 5) FD S28 fun X W C cm hP hw hb0 r hX => ?_, FD⟩⟩
  have F : CF X N28 sc28 := by obtain ⟨_, _, _, _, _, _, rfl⟩ := hX; exact ⟨rfl, rfl⟩
  have hb : X.env.blockKind = .function := by obtain ⟨_, _, _, _, _, _, rfl⟩ := hX; rfl
  have hf : ∀ x, X.fn x = true := by obtain ⟨_, _, _, _, _, _, rfl⟩ := hX; intro _; rfl
  have T : At X P w base := ⟨hP, hw, hb0⟩
  clear hX
  exact
   (ss_cons (ss_expr (xc (k0 := 5) C T r F O25 b25_1 (A.glo 69 rfl) (by decide) (by kernel_rfl) (fun _ => .nil) (xa_cons (xo_name (pn F 1 (by kernel_rfl))) xa_nil) (lenA_cons lenA_nil) rfl))
    (ss_cons (ssx (i := 2) C F hf (by kernel_rfl) (xx_ifE (xt_cmp op_isN og_is (xo_name (pn F 2 (by kernel_rfl))) xo_non (nomark _)) (xx_tup xad_nil) (xx_mv (pn F 2 (by kernel_rfl)))))
    (ss_cons (ss_expr (xc (k0 := 5) C T r F O27 b27_1 (A.glo 66 rfl) (by decide) (by kernel_rfl) (fun _ => .nil) (xa_cons (xo_name (pn F 2 (by kernel_rfl))) xa_nil) (lenA_cons lenA_nil) rfl))
    (ss_cons (ss_expr (xc (k0 := 5) C T r F O21 b21_1 (A.glo 63 rfl) (by decide) (by kernel_rfl) (fun _ => .nil) (xa_cons (xo_name (pn F 3 (by kernel_rfl))) xa_nil) (lenA_cons lenA_nil) rfl))
    (ss_cons (ss_expr (xc (k0 := 5) C T r F O21 b21_1 (A.glo 63 rfl) (by decide) (by kernel_rfl) (fun _ => .nil) (xa_cons (xo_name (pn F 4 (by kernel_rfl))) xa_nil) (lenA_cons lenA_nil) rfl))
    (ss_cons (ss_fld C (He.cls_ok (A.c.fact 56 rfl)) (He.noat_ok (A.c.fact 60 rfl)) (pn F 0 (by kernel_rfl)) (xd_nm (pn F 1 (by kernel_rfl))))
    (ss_cons (ss_fld C (He.cls_ok (A.c.fact 56 rfl)) (He.noat_ok (A.c.fact 59 rfl)) (pn F 0 (by kernel_rfl)) (xd_nm (pn F 2 (by kernel_rfl))))
    (ss_cons (ss_fld C (He.cls_ok (A.c.fact 56 rfl)) (He.noat_ok (A.c.fact 58 rfl)) (pn F 0 (by kernel_rfl)) (xd_nm (pn F 3 (by kernel_rfl))))
    (ss_one (ss_fld C (He.cls_ok (A.c.fact 56 rfl)) (He.noat_ok (A.c.fact 57 rfl)) (pn F 0 (by kernel_rfl)) (xd_nm (pn F 4 (by kernel_rfl)))))))))))))
def N61 : List Str := [("_law_which" : Str), ("_law_odd" : Str), ("_law_caught" : Str), ("_law_word" : Str), ("e" : Str)]
abbrev sc61 : Scope := defScope s61
theorem S61 : FnScope N61 [("_law_which" : Str), ("_law_odd" : Str)] sc61 := ⟨rfl, rfl, rfl, by decide +kernel, rfl, by decide +kernel, by decide +kernel⟩
theorem ok61 (A : All K mg h) : ∃ fd, Ok P w (E K mg) base d61 8 [("_law_which" : Str), ("_law_odd" : Str)] F61 fd := by
  obtain ⟨fd, FD⟩ := A.c.def_ 24 (d := d61) rfl
  obtain ⟨fd58, O58⟩ := ok58 (P := P) (w := w) (base := base) A
  have b58_1 : ∃ ds, Vals ([] : List V) ds ∧ Binds (E K mg).K fd58 [("_law_caught" : Str)] ds := ⟨[], .nil, O58.fd.bindsN fun _ _ _ _ _ _ us hl => match us, hl with | [_], _ => rfl⟩
  obtain ⟨fd46, O46⟩ := ok46 (P := P) (w := w) (base := base) A
  have b46_2 : ∃ ds, Vals ([] : List V) ds ∧ Binds (E K mg).K fd46 [("amount" : Str), ("shares" : Str)] ds := ⟨[], .nil, O46.fd.bindsN fun _ _ _ _ _ _ us hl => match us, hl with | [_, _], _ => rfl⟩
  obtain ⟨fd49, O49⟩ := ok49 (P := P) (w := w) (base := base) A
  have b49_2 : ∃ ds, Vals ([] : List V) ds ∧ Binds (E K mg).K fd49 [("self" : Str), ("deaths" : Str)] ds := O49.fd.binds1 2 1 (by simp [He.DefD.dvs, d49]) rfl fun _ _ _ _ _ _ _ us its hl h2 => match us, its, hl, h2 with | [_, _], [_], _, _ => ⟨_, rfl, rfl⟩
  obtain ⟨fd28, O28⟩ := ok28 (P := P) (w := w) (base := base) A
  have b28_2 : ∃ ds, Vals ([.non, .int 0, .int 0] : List V) ds ∧ Binds (E K mg).K fd28 [("self" : Str), ("people" : Str), ("goods" : Str), ("purse" : Str), ("debts" : Str)] ds := O28.fd.binds1 2 0 (by simp [He.DefD.dvs, d28]) rfl fun _ _ _ _ _ _ _ us its hl h2 => match us, its, hl, h2 with | [_, _], [_, _, _], _, _ => ⟨_, rfl, rfl⟩
  refine ⟨fd, ⟨fnD_ok (N := N61) (g := g61) (k := 7) FD S61 fun X W C cm hP hw hb0 r hX => ?_, FD⟩⟩
  have F : CF X N61 sc61 := by obtain ⟨_, _, _, _, _, _, rfl⟩ := hX; exact ⟨rfl, rfl⟩
  have hb : X.env.blockKind = .function := by obtain ⟨_, _, _, _, _, _, rfl⟩ := hX; rfl
  have hf : ∀ x, X.fn x = true := by obtain ⟨_, _, _, _, _, _, rfl⟩ := hX; intro _; rfl
  have hs : X.stack = X.env :: X.outer := by obtain ⟨_, _, _, _, _, _, rfl⟩ := hX; rfl
  have hfr : X.env.frame = some X.env.locals := by obtain ⟨_, _, _, _, _, _, rfl⟩ := hX; rfl
  have hx : X.ex = [] := by obtain ⟨_, _, _, _, _, _, rfl⟩ := hX; rfl
  have T : At X P w base := ⟨hP, hw, hb0⟩
  clear hX
  exact
   (ss_cons (ssx (i := 2) C F hf (by kernel_rfl) (xx_of xo_non))
    (ss_cons (ss_try C hs hfr hx (fun W1 pn1 xe1 C1 => by
    have F1 := F.tr pn1 xe1
    have T1 := T.tr pn1 xe1
    have r1 := room_tr r pn1 xe1
    have cm1 := calm_tr cm pn1 xe1
    have hf := hf_tr hf pn1 xe1
    exact (ss_one (ss_if (xt_cmp (op_eqU C1.K (roomU r1)) og_eq (xo_name (pn F1 0 (by kernel_rfl))) xo_int (nomark _))
    (ss_one (ss_expr (xc (k0 := 7) C1 T1 r1 F1 O46 b46_2 (A.glo 38 rfl) (by decide) (by kernel_rfl) (fun _ => .nil) (xa_cons (xo_of (xx_bin op_subU og_sub xo_int xo_int)) (xa_cons (xo_name (pn F1 1 (by kernel_rfl))) xa_nil)) (lenA_cons (lenA_cons lenA_nil)) rfl)))
    (ss_one (ss_if (xt_cmp (op_eqU C1.K (roomU r1)) og_eq (xo_name (pn F1 0 (by kernel_rfl))) xo_int (nomark _))
    (ss_one (ss_expr (xm (k0 := 7) (c := 25) C1 T1 r1 F1 O49 b49_2 (He.mkr_ok (A.c.fact 54 rfl)) (A.glo 55 rfl) (by decide) (by kernel_rfl) (fun _ => .nil) (xa_cons (xo_of (xx_tup (xad_cons (xd_of (xx_tup (xad_cons (xd_nm (pn F1 1 (by kernel_rfl))) (xad_cons (xd_op xo_int) xad_nil)))) xad_nil))) xa_nil) (lenA_cons lenA_nil) rfl)))
    (ss_one (ss_expr (xm (k0 := 7) (c := 24) C1 T1 r1 F1 O28 b28_2 (He.mkr_ok (A.c.fact 70 rfl)) (A.glo 71 rfl) (by decide) (by kernel_rfl) (fun _ => (.cons .non (.cons (.int _) (.cons (.int _) .nil)))) (xa_cons (xo_of (xx_tup (xad_cons (xd_of (xx_tup (xad_cons (xd_nm (pn F1 1 (by kernel_rfl))) (xad_cons (xd_op xo_non) xad_nil)))) xad_nil))) xa_nil) (lenA_cons lenA_nil) rfl)))))))) (.cons ⟨(names_ok F (C.gm (A.glo 11 rfl)) (by kernel_rfl)), (exm_ok A (k := 10) (by decide)), F.ix rfl, (F.kd (by kernel_rfl)), ⟨_, _, rfl⟩, fun a1 pn1 => by
    have C2 := C.suite a1 pn1
    have F2 := F.suite a1 pn1
    have hf := hf_su hf a1 pn1
    exact (ss_one (ssx (i := 2) C2 F2 hf (by kernel_rfl) (xx_of (xo_fr (pn F2 4 (by kernel_rfl))))))⟩ .nil))
    (ss_cons (ssx (i := 3) C F hf (by kernel_rfl) (xc (k0 := 7) C T r F O58 b58_1 (A.glo 33 rfl) (by decide) (by kernel_rfl) (fun _ => .nil) (xa_cons (xo_name (pn F 2 (by kernel_rfl))) xa_nil) (lenA_cons lenA_nil) rfl))
    (ss_cons (ss_if (xt_cmp (op_eqU C.K (roomU r)) og_eq (xo_name (pn F 3 (by kernel_rfl))) xo_str (nomark _))
    (ss_one (ss_ret (xx_tup (xad_cons (xd_nm (pn F 3 (by kernel_rfl))) (xad_cons (xd_op (xo_attr C (at_thing_3_4_10_14_15_17 A) (xo_name (pn F 2 (by kernel_rfl))))) xad_nil)))))
    ss_nil)
    (ss_cons (ss_if (xt_cmp (op_inU C.K) og_in (xo_name (pn F 3 (by kernel_rfl))) (xo_of (xx_lst (xad_cons (xd_op xo_str) (xad_cons (xd_op xo_str) xad_nil)))) (by with_unfolding_all rfl))
    (ss_one (ss_ret (xx_tup (xad_cons (xd_nm (pn F 3 (by kernel_rfl))) (xad_cons (xd_op (xo_attr C (at_number_6_7_9_13 A) (xo_name (pn F 2 (by kernel_rfl))))) xad_nil)))))
    ss_nil)
    (ss_one (ss_ret (xx_tup (xad_cons (xd_nm (pn F 3 (by kernel_rfl))) (xad_cons (xd_op xo_non) xad_nil))))))))))
def N59 : List Str := [("_law_odd" : Str), ("_law_words" : Str), ("_law_sign" : Str)]
abbrev sc59 : Scope := defScope s59
theorem S59 : FnScope N59 [("_law_odd" : Str)] sc59 := ⟨rfl, rfl, rfl, by decide +kernel, rfl, by decide +kernel, by decide +kernel⟩
theorem ok59 (A : All K mg h) : ∃ fd, Ok P w (E K mg) base d59 1 [("_law_odd" : Str)] F59 fd := by
  obtain ⟨fd, FD⟩ := A.c.def_ 22 (d := d59) rfl
  refine ⟨fd, ⟨fnD_ok (N := N59) (g := g59) (k := 0) FD S59 fun X W C cm hP hw hb0 r hX => ?_, FD⟩⟩
  have F : CF X N59 sc59 := by obtain ⟨_, _, _, _, _, _, rfl⟩ := hX; exact ⟨rfl, rfl⟩
  have hb : X.env.blockKind = .function := by obtain ⟨_, _, _, _, _, _, rfl⟩ := hX; rfl
  have hf : ∀ x, X.fn x = true := by obtain ⟨_, _, _, _, _, _, rfl⟩ := hX; intro _; rfl
  have T : At X P w base := ⟨hP, hw, hb0⟩
  clear hX
  exact
   (ss_cons (ssx (i := 1) C F hf (by kernel_rfl) (xx_lst (xad_cons (xd_op xo_str) (xad_cons (xd_op xo_str) (xad_cons (xd_op xo_str) (xad_cons (xd_op xo_str) (xad_cons (xd_op xo_str) (xad_cons (xd_op xo_str) (xad_cons (xd_op xo_str) (xad_cons (xd_op xo_str) (xad_cons (xd_op xo_str) (xad_cons (xd_op xo_str) (xad_cons (xd_op xo_str) (xad_cons (xd_op xo_str) (xad_cons (xd_op xo_str) xad_nil)))))))))))))))
    (ss_cons (ss_if (xw_or (xt_not (xt_tru C (xo_of (xx_callB (call_isU C.K) (cg_isi (isi_ok A)) (F.g (by kernel_rfl)) (C.gm (A.fre 6 rfl)) (by kernel_rfl) (xa_cons (xo_name (pn F 0 (by kernel_rfl))) (xa_cons (xo_gty (F.g (by kernel_rfl)) (C.gm (A.fre 45 rfl)) (by kernel_rfl)) xa_nil)))))) (xw_or (xt_not (xt_chain op_leU op_leU og_cmp og_cmp xo_int (xo_of (xx_callB (call_lenU C.K) cg_len (F.g (by kernel_rfl)) (C.gm (A.fre 1 rfl)) (by kernel_rfl) (xa_cons (xo_name (pn F 0 (by kernel_rfl))) xa_nil))) xo_int)) (xw_or1 (xt_cmp (op_inU C.K) og_in (xo_name (pn F 0 (by kernel_rfl))) (xo_name (pn F 1 (by kernel_rfl))) (by with_unfolding_all rfl))))).pt
    (ss_one (ss_ret (xx_of xo_bl)))
    ss_nil)
    (ss_one (ss_ret (xx_callB (call_allU C.K cm) cg_all (F.g (by kernel_rfl)) (C.gm (A.fre 44 rfl)) (by kernel_rfl) (xa_cons (xo_of (xx_comp C cm (own := [(("_law_sign" : Str), 2)]) (is := [2]) (xi_any C.K (xd_nm (pn F 0 (by kernel_rfl)))) (F.blk (by kernel_rfl)) (by decide) (fun Y C1 cm1 hY => by
    have F1 := F.subY hY
    have T1 := T.subY hY
    have r1 := roomY r hY
    exact ⟨(sgb C1 F1 2 (by kernel_rfl)), xts_nil, (xx_cmp (op_inU C1.K) og_in (xo_name (pn F1 2 (by kernel_rfl))) xo_str (by with_unfolding_all rfl))⟩))) xa_nil))))))
def N57 : List Str := [("_law_pool_here" : Str), ("_law_many" : Str), ("_law_digit" : Str)]
abbrev sc57 : Scope := defScope s57
theorem S57 : FnScope N57 [("_law_pool_here" : Str), ("_law_many" : Str)] sc57 := ⟨rfl, rfl, rfl, by decide +kernel, rfl, by decide +kernel, by decide +kernel⟩
theorem ok57 (A : All K mg h) : ∃ fd, Ok P w (E K mg) base d57 1 [("_law_pool_here" : Str), ("_law_many" : Str)] F57 fd := by
  obtain ⟨fd, FD⟩ := A.c.def_ 20 (d := d57) rfl
  refine ⟨fd, ⟨fnD_ok (N := N57) (g := g57) (k := 0) FD S57 fun X W C cm hP hw hb0 r hX => ?_, FD⟩⟩
  have F : CF X N57 sc57 := by obtain ⟨_, _, _, _, _, _, rfl⟩ := hX; exact ⟨rfl, rfl⟩
  have hb : X.env.blockKind = .function := by obtain ⟨_, _, _, _, _, _, rfl⟩ := hX; rfl
  have hf : ∀ x, X.fn x = true := by obtain ⟨_, _, _, _, _, _, rfl⟩ := hX; intro _; rfl
  have T : At X P w base := ⟨hP, hw, hb0⟩
  clear hX
  exact
   (ss_cons (ss_asgT (xx_callB call_divmod cg_divmod (F.g (by kernel_rfl)) (C.gm (A.fre 74 rfl)) (by kernel_rfl) (xa_cons (xo_of (xx_ix C.K (xo_name (pn F 0 (by kernel_rfl))) xo_int (fun _ _ => rfl))) (xa_cons (xo_name (pn F 1 (by kernel_rfl))) xa_nil))) (sg_tup C.K cm (sg_cons (sg_sub (W := W) (pn F 0 (by kernel_rfl)) xo_int) (sg_cons (sgx C F hf 2 (by kernel_rfl)) sg_nil))))
    (ss_one (ss_ret (xx_mv (pn F 2 (by kernel_rfl))))))
def N60 : List Str := [("_law_pool_here" : Str), ("_law_words" : Str), ("_law_found" : Str), ("_law_place" : Str), ("_law_spot" : Str), ("_law_sign" : Str), ("_law_some" : Str)]
abbrev sc60 : Scope := defScope s60
theorem S60 : FnScope N60 [("_law_pool_here" : Str)] sc60 := ⟨rfl, rfl, rfl, by decide +kernel, rfl, by decide +kernel, by decide +kernel⟩
theorem ok60 (A : All K mg h) : ∃ fd, Ok P w (E K mg) base d60 2 [("_law_pool_here" : Str)] F60 fd := by
  obtain ⟨fd, FD⟩ := A.c.def_ 23 (d := d60) rfl
  obtain ⟨fd57, O57⟩ := ok57 (P := P) (w := w) (base := base) A
  have b57_2 : ∃ ds, Vals ([] : List V) ds ∧ Binds (E K mg).K fd57 [("_law_pool_here" : Str), ("_law_many" : Str)] ds := ⟨[], .nil, O57.fd.bindsN fun _ _ _ _ _ _ us hl => match us, hl with | [_, _], _ => rfl⟩
  refine ⟨fd, ⟨fnD_ok (N := N60) (g := g60) (k := 1) FD S60 fun X W C cm hP hw hb0 r hX => ?_, FD⟩⟩
  have F : CF X N60 sc60 := by obtain ⟨_, _, _, _, _, _, rfl⟩ := hX; exact ⟨rfl, rfl⟩
  have hb : X.env.blockKind = .function := by obtain ⟨_, _, _, _, _, _, rfl⟩ := hX; rfl
  have hf : ∀ x, X.fn x = true := by obtain ⟨_, _, _, _, _, _, rfl⟩ := hX; intro _; rfl
  have T : At X P w base := ⟨hP, hw, hb0⟩
  clear hX
  exact
   (ss_cons (ssx (i := 1) C F hf (by kernel_rfl) (xx_lst (xad_cons (xd_op xo_str) (xad_cons (xd_op xo_str) (xad_cons (xd_op xo_str) (xad_cons (xd_op xo_str) (xad_cons (xd_op xo_str) (xad_cons (xd_op xo_str) (xad_cons (xd_op xo_str) (xad_cons (xd_op xo_str) (xad_cons (xd_op xo_str) (xad_cons (xd_op xo_str) (xad_cons (xd_op xo_str) (xad_cons (xd_op xo_str) (xad_cons (xd_op xo_str) xad_nil)))))))))))))))
    (ss_cons (ssx (i := 2) C F hf (by kernel_rfl) (xx_ix C.K (xo_name (pn F 1 (by kernel_rfl))) (xo_of (xc (k0 := 1) C T r F O57 b57_2 (A.glo 75 rfl) (by decide) (by kernel_rfl) (fun _ => .nil) (xa_cons (xo_name (pn F 0 (by kernel_rfl))) (xa_cons xo_int xa_nil)) (lenA_cons (lenA_cons lenA_nil)) rfl)) (fun _ _ => rfl)))
    (ss_cons (ss_if (xt_cmp op_gtU og_cmp (xo_of (xc (k0 := 1) C T r F O57 b57_2 (A.glo 75 rfl) (by decide) (by kernel_rfl) (fun _ => .nil) (xa_cons (xo_name (pn F 0 (by kernel_rfl))) (xa_cons xo_int xa_nil)) (lenA_cons (lenA_cons lenA_nil)) rfl)) xo_int (nomark _))
    (ss_cons (ssx (i := 2) C F hf (by kernel_rfl) (xx_of xo_str))
    (ss_one (ss_for C cm (xi_rg1 (F.g (by kernel_rfl)) (C.gm (A.fre 0 rfl)) (xo_of (xx_bin (op_addU C.K) og_add xo_int (xo_of (xc (k0 := 1) C T r F O57 b57_2 (A.glo 75 rfl) (by decide) (by kernel_rfl) (fun _ => .nil) (xa_cons (xo_name (pn F 0 (by kernel_rfl))) (xa_cons xo_int xa_nil)) (lenA_cons (lenA_cons lenA_nil)) rfl))))) (sgx C F hf 3 (by kernel_rfl))
    (ss_one (ssx (i := 2) C F hf (by kernel_rfl) (xx_bin (op_addU C.K) og_add (xo_name (pn F 2 (by kernel_rfl))) (xo_of (xx_ix C.K xo_str (xo_of (xc (k0 := 1) C T r F O57 b57_2 (A.glo 75 rfl) (by decide) (by kernel_rfl) (fun _ => .nil) (xa_cons (xo_name (pn F 0 (by kernel_rfl))) (xa_cons xo_int xa_nil)) (lenA_cons (lenA_cons lenA_nil)) rfl)) (fun _ _ => rfl)))))))))
    ss_nil)
    (ss_cons (ssx (i := 4) C F hf (by kernel_rfl) (xc (k0 := 1) C T r F O57 b57_2 (A.glo 75 rfl) (by decide) (by kernel_rfl) (fun _ => .nil) (xa_cons (xo_name (pn F 0 (by kernel_rfl))) (xa_cons (xo_of (xx_bin (op_addU C.K) og_add (xo_of (xx_callB (call_lenU C.K) cg_len (F.g (by kernel_rfl)) (C.gm (A.fre 1 rfl)) (by kernel_rfl) (xa_cons (xo_name (pn F 2 (by kernel_rfl))) xa_nil))) xo_int)) xa_nil)) (lenA_cons (lenA_cons lenA_nil)) rfl))
    (ss_cons (ssx (i := 5) C F hf (by kernel_rfl) (xx_ix C.K (xo_of (xx_lst (xad_cons (xd_op xo_str) (xad_cons (xd_op xo_str) (xad_cons (xd_op xo_str) (xad_cons (xd_op xo_str) (xad_cons (xd_op xo_str) (xad_cons (xd_op xo_str) (xad_cons (xd_op xo_str) (xad_cons (xd_op xo_str) xad_nil)))))))))) (xo_of (xc (k0 := 1) C T r F O57 b57_2 (A.glo 75 rfl) (by decide) (by kernel_rfl) (fun _ => .nil) (xa_cons (xo_name (pn F 0 (by kernel_rfl))) (xa_cons xo_int xa_nil)) (lenA_cons (lenA_cons lenA_nil)) rfl)) (fun _ _ => rfl)))
    (ss_cons (ssx (i := 6) C F hf (by kernel_rfl) (xx_lst (xad_cons (xd_nm (pn F 2 (by kernel_rfl))) (xad_cons (xd_nm (pn F 2 (by kernel_rfl))) (xad_cons (xd_of (xx_bin (op_addU C.K) og_add (xo_of (xx_bin (op_addU C.K) og_add (xo_of (xx_sl C.K (xo_name (pn F 2 (by kernel_rfl))) xp_none (xp_some (xo_name (pn F 4 (by kernel_rfl)))))) (xo_name (pn F 5 (by kernel_rfl))))) (xo_of (xx_sl C.K (xo_name (pn F 2 (by kernel_rfl))) (xp_some (xo_name (pn F 4 (by kernel_rfl)))) xp_none)))) (xad_cons (xd_of (xx_bin (op_addU C.K) og_add (xo_of (xx_sl C.K (xo_name (pn F 2 (by kernel_rfl))) xp_none (xp_some (xo_name (pn F 4 (by kernel_rfl)))))) (xo_of (xx_sl C.K (xo_name (pn F 2 (by kernel_rfl))) (xp_some (xo_of (xx_bin (op_addU C.K) og_add (xo_name (pn F 4 (by kernel_rfl))) xo_int))) xp_none)))) xad_nil))))))
    (ss_one (ss_ret (xx_ix C.K (xo_of (xx_bin (op_addU C.K) og_add (xo_name (pn F 6 (by kernel_rfl))) (xo_of (xx_lst (xad_cons (xd_of (xx_bin (op_addU C.K) og_add (xo_of (xx_bin (op_addU C.K) og_add (xo_of (xx_sl C.K (xo_name (pn F 2 (by kernel_rfl))) xp_none (xp_some (xo_name (pn F 4 (by kernel_rfl)))))) (xo_name (pn F 5 (by kernel_rfl))))) (xo_of (xx_sl C.K (xo_name (pn F 2 (by kernel_rfl))) (xp_some (xo_of (xx_bin (op_addU C.K) og_add (xo_name (pn F 4 (by kernel_rfl))) xo_int))) xp_none)))) (xad_cons (xd_of (xx_mt0 C.K PySem.F.plainAttrs_str PySem.F.slot_str_upper rfl mt_upper mg_upper (xo_name (pn F 2 (by kernel_rfl))))) xad_nil)))))) (xo_of (xc (k0 := 1) C T r F O57 b57_2 (A.glo 75 rfl) (by decide) (by kernel_rfl) (fun _ => .nil) (xa_cons (xo_name (pn F 0 (by kernel_rfl))) (xa_cons xo_int xa_nil)) (lenA_cons (lenA_cons lenA_nil)) rfl)) (fun _ _ => rfl))))))))))
def N56 : List Str := [("_law_script" : Str), ("_law_k" : Str), ("_law_cell" : Str), ("_law_more" : Str), ("_law_found" : Str), ("_law_turn" : Str)]
abbrev sc56 : Scope := defScope s56
theorem S56 : FnScope N56 [("_law_script" : Str), ("_law_k" : Str)] sc56 := ⟨rfl, rfl, rfl, by decide +kernel, rfl, by decide +kernel, by decide +kernel⟩
theorem ok56 (A : All K mg h) : ∃ fd, Ok P w (E K mg) base d56 1 [("_law_script" : Str), ("_law_k" : Str)] F56 fd := by
  obtain ⟨fd, FD⟩ := A.c.def_ 19 (d := d56) rfl
  refine ⟨fd, ⟨fnD_ok (N := N56) (g := g56) (k := 0) FD S56 fun X W C cm hP hw hb0 r hX => ?_, FD⟩⟩
  have F : CF X N56 sc56 := by obtain ⟨_, _, _, _, _, _, rfl⟩ := hX; exact ⟨rfl, rfl⟩
  have hb : X.env.blockKind = .function := by obtain ⟨_, _, _, _, _, _, rfl⟩ := hX; rfl
  have hf : ∀ x, X.fn x = true := by obtain ⟨_, _, _, _, _, _, rfl⟩ := hX; intro _; rfl
  have T : At X P w base := ⟨hP, hw, hb0⟩
  clear hX
  exact
   (ss_cons (ssx (i := 2) C F hf (by kernel_rfl) (xx_callB (call_sumU C.K cm) cg_sum (F.g (by kernel_rfl)) (C.gm (A.fre 78 rfl)) (by kernel_rfl) (xa_cons (xo_of (xx_sl C.K (xo_name (pn F 0 (by kernel_rfl))) (xp_some (xo_name (pn F 1 (by kernel_rfl)))) (xp_some (xo_of (xx_bin (op_addU C.K) og_add (xo_name (pn F 1 (by kernel_rfl))) xo_int))))) xa_nil)))
    (ss_cons (ss_if (xw_or (xt_cmp op_ltU og_cmp (xo_name (pn F 2 (by kernel_rfl))) xo_int (nomark _)) (xw_or1 (xt_cmp op_geU og_cmp (xo_name (pn F 2 (by kernel_rfl))) (xo_of (xx_bin op_pow og_pow xo_int xo_int)) (nomark _)))).pt
    (ss_one (ss_ret (xx_lst (xad_cons (xd_of (xx_bin op_mod og_mod (xo_of (xx_callB call_abs cg_abs (F.g (by kernel_rfl)) (C.gm (A.fre 77 rfl)) (by kernel_rfl) (xa_cons (xo_name (pn F 2 (by kernel_rfl))) xa_nil))) (xo_of (xx_bin op_mulW og_mul (xo_of (xx_bin op_mulW og_mul (xo_of (xx_bin op_mulW og_mul (xo_of (xx_bin op_mulW og_mul (xo_of (xx_bin op_mulW og_mul (xo_of (xx_bin op_pow og_pow xo_int xo_int)) (xo_of (xx_bin op_pow og_pow xo_int xo_int)))) (xo_of (xx_bin op_pow og_pow xo_int xo_int)))) (xo_of (xx_bin op_pow og_pow xo_int xo_int)))) (xo_of (xx_bin op_pow og_pow xo_int xo_int)))) (xo_of (xx_bin op_pow og_pow xo_int xo_int)))))) xad_nil))))
    ss_nil)
    (ss_cons (ssx (i := 3) C F hf (by kernel_rfl) (xx_bin (op_addU C.K) og_add (xo_of (xx_bin (op_addU C.K) og_add (xo_of (xx_bin op_mulW og_mul (xo_name (pn F 2 (by kernel_rfl))) xo_int)) (xo_of (xx_bin op_mulW og_mul (xo_of (xx_bin op_mulW og_mul xo_int (xo_name (pn F 1 (by kernel_rfl))))) (xo_name (pn F 1 (by kernel_rfl))))))) xo_int))
    (ss_cons (ssx (i := 4) C F hf (by kernel_rfl) (xx_of xo_int))
    (ss_cons (ss_for C cm (xi_rg1 (F.g (by kernel_rfl)) (C.gm (A.fre 0 rfl)) xo_int) (sgx C F hf 5 (by kernel_rfl))
    (ss_cons (ssx (i := 3) C F hf (by kernel_rfl) (xx_bin op_mod og_mod (xo_of (xx_bin (op_addU C.K) og_add (xo_of (xx_bin (op_addU C.K) og_add (xo_of (xx_bin op_mulW og_mul (xo_of (xx_bin op_mod og_mod (xo_name (pn F 3 (by kernel_rfl))) xo_int)) xo_int)) (xo_of (xx_bin op_mulW og_mul xo_int (xo_name (pn F 5 (by kernel_rfl))))))) xo_int)) xo_int))
    (ss_one (ssx (i := 4) C F hf (by kernel_rfl) (xx_bin (op_addU C.K) og_add (xo_of (xx_bin op_mulW og_mul (xo_name (pn F 4 (by kernel_rfl))) (xo_of (xx_bin op_pow og_pow xo_int xo_int)))) (xo_of (xx_bin op_mod og_mod (xo_of (xx_bin op_mulW og_mul (xo_name (pn F 3 (by kernel_rfl))) (xo_of (xx_bin (op_addU C.K) og_add (xo_of (xx_bin op_mod og_mod (xo_name (pn F 3 (by kernel_rfl))) xo_int)) xo_int)))) xo_int)))))))
    (ss_one (ss_ret (xx_lst (xad_cons (xd_nm (pn F 4 (by kernel_rfl))) xad_nil)))))))))
def N62 : List Str := [("_law_script" : Str), ("_law_things" : Str), ("_law_k" : Str), ("_law_pool_here" : Str), ("_law_made" : Str), ("_law_turn" : Str), ("_law_odd" : Str), ("_law_found" : Str), ("_law_due" : Str), ("_law_which" : Str)]
abbrev sc62 : Scope := defScope s62
theorem S62 : FnScope N62 [("_law_script" : Str)] sc62 := ⟨rfl, rfl, rfl, by decide +kernel, rfl, by decide +kernel, by decide +kernel⟩
theorem ok62 (A : All K mg h) : ∃ fd, Ok P w (E K mg) base d62 9 [("_law_script" : Str)] F62 fd := by
  obtain ⟨fd, FD⟩ := A.c.def_ 25 (d := d62) rfl
  obtain ⟨fd61, O61⟩ := ok61 (P := P) (w := w) (base := base) A
  have b61_2 : ∃ ds, Vals ([] : List V) ds ∧ Binds (E K mg).K fd61 [("_law_which" : Str), ("_law_odd" : Str)] ds := ⟨[], .nil, O61.fd.bindsN fun _ _ _ _ _ _ us hl => match us, hl with | [_, _], _ => rfl⟩
  obtain ⟨fd18, O18⟩ := ok18 (P := P) (w := w) (base := base) A
  have kb18_0_thing : ∃ g, KBn (E K mg).K fd18 [("thing" : Str)] 0 [("thing" : Str)] g (fun vs zs => selL [0] (vs ++ zs ++ ([] : List V))) := kb0 O18.fd 0 [("thing" : Str)] [0] fun _ _ _ _ _ _ us ws hl h2 => match us, ws, hl, h2 with | [], [_], _, _ => rfl
  obtain ⟨fd59, O59⟩ := ok59 (P := P) (w := w) (base := base) A
  have b59_1 : ∃ ds, Vals ([] : List V) ds ∧ Binds (E K mg).K fd59 [("_law_odd" : Str)] ds := ⟨[], .nil, O59.fd.bindsN fun _ _ _ _ _ _ us hl => match us, hl with | [_], _ => rfl⟩
  have b18_1 : ∃ ds, Vals ([] : List V) ds ∧ Binds (E K mg).K fd18 [("thing" : Str)] ds := ⟨[], .nil, O18.fd.bindsN fun _ _ _ _ _ _ us hl => match us, hl with | [_], _ => rfl⟩
  obtain ⟨fd60, O60⟩ := ok60 (P := P) (w := w) (base := base) A
  have b60_1 : ∃ ds, Vals ([] : List V) ds ∧ Binds (E K mg).K fd60 [("_law_pool_here" : Str)] ds := ⟨[], .nil, O60.fd.bindsN fun _ _ _ _ _ _ us hl => match us, hl with | [_], _ => rfl⟩
  obtain ⟨fd56, O56⟩ := ok56 (P := P) (w := w) (base := base) A
  have b56_2 : ∃ ds, Vals ([] : List V) ds ∧ Binds (E K mg).K fd56 [("_law_script" : Str), ("_law_k" : Str)] ds := ⟨[], .nil, O56.fd.bindsN fun _ _ _ _ _ _ us hl => match us, hl with | [_, _], _ => rfl⟩
  refine ⟨fd, ⟨fnD_ok (N := N62) (g := g62) (k := 8) FD S62 fun X W C cm hP hw hb0 r hX => ?_, FD⟩⟩
  have F : CF X N62 sc62 := by obtain ⟨_, _, _, _, _, _, rfl⟩ := hX; exact ⟨rfl, rfl⟩
  have hb : X.env.blockKind = .function := by obtain ⟨_, _, _, _, _, _, rfl⟩ := hX; rfl
  have hf : ∀ x, X.fn x = true := by obtain ⟨_, _, _, _, _, _, rfl⟩ := hX; intro _; rfl
  have T : At X P w base := ⟨hP, hw, hb0⟩
  clear hX
  exact
   (ss_cons (ssx (i := 1) C F hf (by kernel_rfl) (xx_lst (xad_cons (xd_op xo_non) (xad_cons (xd_op xo_int) (xad_cons (xd_op xo_int) (xad_cons (xd_op xo_bl) (xad_cons (xd_op xo_str) (xad_cons (xd_op xo_str) (xad_cons (xd_of (xx_tup (xad_cons (xd_op xo_str) xad_nil))) (xad_cons (xd_of (xx_lst (xad_cons (xd_op xo_str) xad_nil))) (xad_cons (xd_of xx_dic0) (xad_cons (xd_of (xx_tup (xad_cons (xd_of (xx_lst xad_nil)) xad_nil))) (xad_cons (xd_of (xx_lst (xad_cons (xd_of (xx_lst (xad_cons (xd_op xo_str) xad_nil))) xad_nil))) (xad_cons (xd_op xo_str) (xad_cons (xd_op xo_str) (xad_cons (xd_op xo_str) (xad_cons (xd_of (xx_tup xad_nil)) xad_nil)))))))))))))))))
    (ss_cons (ss_expr (xx_mu PySem.F.slot_list_append rfl mt_append mg_append (pn F 1 (by kernel_rfl)) (xad_cons (xd_op xo_str) xad_nil)))
    (ss_cons (ss_for C cm (xi_rg1 (F.g (by kernel_rfl)) (C.gm (A.fre 0 rfl)) (xo_of (xx_callB (call_max2 cm) cg_int2 (F.g (by kernel_rfl)) (C.gm (A.fre 3 rfl)) (by kernel_rfl) (xa_cons xo_int (xa_cons (xo_of (xx_callB (call_min2 cm) cg_int2 (F.g (by kernel_rfl)) (C.gm (A.fre 2 rfl)) (by kernel_rfl) (xa_cons (xo_of (xx_callB (call_lenU C.K) cg_len (F.g (by kernel_rfl)) (C.gm (A.fre 1 rfl)) (by kernel_rfl) (xa_cons (xo_name (pn F 0 (by kernel_rfl))) xa_nil))) (xa_cons xo_int xa_nil)))) xa_nil))))) (sgx C F hf 2 (by kernel_rfl))
    (ss_cons (ssx (i := 3) C F hf (by kernel_rfl) (xc (k0 := 8) C T r F O56 b56_2 (A.glo 79 rfl) (by decide) (by kernel_rfl) (fun _ => .nil) (xa_cons (xo_name (pn F 0 (by kernel_rfl))) (xa_cons (xo_name (pn F 2 (by kernel_rfl))) xa_nil)) (lenA_cons (lenA_cons lenA_nil)) rfl))
    (ss_cons (ssc (i := 4) C cm F hb (hc := (by kernel_rfl)) (own := [(("_law_turn" : Str), 5)]) (is := [5]) (xi_rg1 (F.g (by kernel_rfl)) (C.gm (A.fre 0 rfl)) xo_int) (F.blk (by kernel_rfl)) (by decide) (fun Y C2 cm2 hY => by
    have F2 := F.subY hY
    have T2 := T.subY hY
    have r2 := roomY r hY
    exact ⟨(sgb C2 F2 5 (by kernel_rfl)), xts_nil, (xc (k0 := 8) C2 T2 r2 F2 O60 b60_1 (A.glo 76 rfl) (by decide) (by kernel_rfl) (fun _ => .nil) (xa_cons (xo_name (pn F2 3 (by kernel_rfl))) xa_nil) (lenA_cons lenA_nil) rfl)⟩))
    (ss_cons (ss_for C cm (xi_any C.K (xd_of (xx_bin (op_addU C.K) og_add (xo_name (pn F 4 (by kernel_rfl))) (xo_name (pn F 1 (by kernel_rfl)))))) (sgx C F hf 6 (by kernel_rfl))
    (ss_cons (ss_par (i := 7) (j := 8) C cm F hb (xad_cons (xd_of (xc (k0 := 8) C T r F O18 b18_1 (A.glo 48 rfl) (by decide) (by kernel_rfl) (fun _ => .nil) (xa_cons (xo_name (pn F 6 (by kernel_rfl))) xa_nil) (lenA_cons lenA_nil) rfl)) (xad_cons (xd_of (xc (k0 := 8) C T r F O59 b59_1 (A.glo 73 rfl) (by decide) (by kernel_rfl) (fun _ => .nil) (xa_cons (xo_name (pn F 6 (by kernel_rfl))) xa_nil) (lenA_cons lenA_nil) rfl)) xad_nil)) (by kernel_rfl))
    (ss_cons (ss_if (xw_or (xt_not (xt_tru C (xo_of (xx_callB (call_isU C.K) (cg_isi (isi_ok A)) (F.g (by kernel_rfl)) (C.gm (A.fre 6 rfl)) (by kernel_rfl) (xa_cons (xo_name (pn F 7 (by kernel_rfl))) (xa_cons (xo_gty (F.g (by kernel_rfl)) (C.gm (A.fre 34 rfl)) (by kernel_rfl)) xa_nil)))))) (xw_or1 (xt_cmp (op_neU C.K (roomU r)) og_ne (xo_name (pn F 7 (by kernel_rfl))) (xo_name (pn F 8 (by kernel_rfl))) (nomark _)))).pt
    (ss_one (ss_ret (xx_of xo_bl)))
    ss_nil)
    (ss_one (ss_if (xw_and (xt_not (xt_tru C (xo_name (pn F 8 (by kernel_rfl))))) (xw_and1 (xt_cmp (op_neU C.K (roomU r)) og_ne (xo_of (xx_comp C cm (own := [(("_law_which" : Str), 9)]) (is := [9]) (xi_any C.K (xd_of (xx_lst (xad_cons (xd_op xo_int) (xad_cons (xd_op xo_int) xad_nil))))) (F.blk (by kernel_rfl)) (by decide) (fun Y C1 cm1 hY => by
    have F1 := F.subY hY
    have T1 := T.subY hY
    have r1 := roomY r hY
    exact ⟨(sgb C1 F1 9 (by kernel_rfl)), xts_nil, (xc (k0 := 8) C1 T1 r1 F1 O61 b61_2 (A.glo 72 rfl) (by decide) (by kernel_rfl) (fun _ => .nil) (xa_cons (xo_name (pn F1 9 (by kernel_rfl))) (xa_cons (xo_name (pn F1 6 (by kernel_rfl))) xa_nil)) (lenA_cons (lenA_cons lenA_nil)) rfl)⟩))) (xo_of (xx_lst (xad_cons (xd_of (xx_tup (xad_cons (xd_op xo_str) (xad_cons (xd_op xo_int) xad_nil)))) (xad_cons (xd_of (xx_tup (xad_cons (xd_op xo_str) (xad_cons (xd_op xo_int) xad_nil)))) xad_nil)))) (nomark _)))).pt
    (ss_one (ss_ret (xx_of xo_bl)))
    ss_nil)))))
    (ss_one (ss_if (xw_or (xt_cmp (op_neU C.K (roomU r)) og_ne (xo_of (xc (k0 := 8) C T r F O61 b61_2 (A.glo 72 rfl) (by decide) (by kernel_rfl) (fun _ => .nil) (xa_cons xo_int (xa_cons (xo_of (xx_ix C.K (xo_name (pn F 4 (by kernel_rfl))) xo_int (fun _ _ => rfl))) xa_nil)) (lenA_cons (lenA_cons lenA_nil)) rfl)) (xo_of (xx_tup (xad_cons (xd_op xo_str) (xad_cons (xd_of (xx_bin op_subU og_sub xo_int xo_int)) xad_nil)))) (nomark _)) (xw_or1 (xt_not (xt_tru C (xo_of (xk0 (k0 := 8) C T r F O18 kb18_0_thing (A.glo 48 rfl) (by decide) (by kernel_rfl) (fun _ => .nil) (xk_cons xo_str xk_nil) (lenA_cons lenA_nil) (by decide) rfl)))))).pt
    (ss_one (ss_ret (xx_of xo_bl)))
    ss_nil))))))
    (ss_one (ss_ret (xx_of xo_bl))))))
end
theorem facts {P : Program} {w : World} {K : PySem.W.Frag} {h : Heap} {mg : Str → Option Value} {f : Addr} (X : K.In h) (G : h.Ns mainGlobals mg) (hfa : mg ("law" : Str) = some (.ref f)) (c : He.SaysD fa fn K) (hex : ex K = true) :
    ∃ fd : FuncData, (∀ (s : Shared) (v : Value), BindsTo s fd ⟨[v], []⟩ [("_law_script", v)]) ∧ ∀ base : Heap, K.In base → base.Ns mainGlobals mg → FnOk P w K mg base (CXa P) 9 f fd ["_law_script"] (spD (E K mg) 1 F62) := by
  have A : All K mg h := ⟨c, X, G, hex⟩
  have e : mg ("law" : Str) = _ := A.glo 80 rfl
  have e2 := hfa.symm.trans e
  obtain ⟨fd0, F0⟩ := c.def_ 25 (d := d62) rfl
  have key : ∀ base : Heap, ∃ fd, Ok P w (E K mg) base d62 9 ["_law_script"] F62 fd := fun base => ok62 A
  refine ⟨fd0, fun s v => F0.bindsA (ps := ["_law_script"]) (fun _ _ _ _ _ _ us hl => match us, hl with | [_], _ => rfl) s [v] rfl, fun base _ _ => ?_⟩
  obtain ⟨fd, O⟩ := key base
  have e3 : fd = fd0 := funD_one O.fd F0
  subst e3
  have e4 : f = He.fAd K d62.at_ := by
    injection (Option.some.inj e2) with e5
  rw [e4]
  exact fnOk_any O.fn
end Hd
open PySem PySem.W PySem.Calls PyProof.Rows in
theorem holds_of (math : ∀ ns : List Int, ns.length ≤ 63 → ∃ ρ, Dn.F62 [L2.WD.Sl.fz (.scr ns)] = .ok ρ (.fz (.bl true))) : PySem.Challenge.rw_willdealt_k01_names_of_any_kind.Holds := by
  w_on; o_law
  refine HandSHeadRun.head_any (r := OpenLaw.row PySem.Challenge.rw_willdealt_k01_names_of_any_kind) (q := view (OpenLaw.row PySem.Challenge.rw_willdealt_k01_names_of_any_kind).prog [69]) (H := Hd.hk) (ob := Hd.ob) (M := 20000) (loose := Hd.nms) (d := HandSHeadRun.topDef (OpenLaw.row PySem.Challenge.rw_willdealt_k01_names_of_any_kind).prog 69) (kwd := []) Hd.ob_eq
    (by kernel_rfl) (fun s => by kernel_rfl) Hd.run (by kernel_rfl) (by kernel_rfl) (by kernel_rfl) (by rfl) (by first | assumption | decide +kernel) (by decide +kernel) ⟨rfl, rfl, rfl, rfl, rfl, by decide +kernel⟩ ?hw ?hc
  case hw => w_witness2
  case hc =>
    refine L2.walk_ofE (l := PySem.Challenge.rw_willdealt_k01_names_of_any_kind) (n := 63) (k := 9) (x := "_law_script") (CX := L2.WD.CXa (PySem.Challenge.rw_willdealt_k01_names_of_any_kind).prog) rfl (by decide) (by kernel_rfl) ⟨rfl, by decide, by decide⟩ ?F (fun H s u s' h => L2.WD.cxa_no H s u s' h)
    intro w mg fa h Y G hmg0
    obtain ⟨K, KX, c, hex⟩ := Y
    have hmg : mg ("law" : PySem.Str) = some (.ref fa) := by
      have e : (HandSHeadRun.topDef (OpenLaw.row PySem.Challenge.rw_willdealt_k01_names_of_any_kind).prog 69).name = ("law" : PySem.Str) := by kernel_rfl
      rw [← e]
      exact hmg0
    obtain ⟨fd, hb, hF⟩ := Hd.facts (P := (PySem.Challenge.rw_willdealt_k01_names_of_any_kind).prog) (w := w) KX G hmg c hex
    refine ⟨K, fd, L2.WD.spD (Hd.E K mg) 1 Dn.F62, KX, hb, fun H a ns hl _ hS => ?_, hF⟩
    obtain ⟨ρ, q⟩ := math ns hl
    exact L2.WD.law_spD hS q
theorem PySem.Challenge.cw_willdealt_k01_names_of_any_kind_holds : PySem.Challenge.rw_willdealt_k01_names_of_any_kind.Holds := by
  exact holds_of M.law_ok
