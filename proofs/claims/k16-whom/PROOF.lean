import PyProof.Rows.All
import Wide.All
import OpenK.AllK
import Wide.FinOn
import KE.KStateDown
import Lean
import HandS.ForMost
import HandS.Exc
import HandS.ExcOwn
import HandS.ExcInit
import HandS.ExcIs
import HandS.CallSlots
import HandS.Flow
import HandS.Style
import HandS.Wide
import HandS.Defaults
import HandS.TryOnly
import HandS.TupAny
import HandS.WordsExc
import HandS.Iter
import HandS.Walk
import HandS.Text
import HandS.IsInst
import HandS.ClsMeth
import KE.KExcInit
import KE.GoesEnum
import HandS.MakeKw
import HandS.Head0
import HandS.Head1
import HandS.Head2
import HandS.HeadEnd
import HandS.HeadHook1
import HandS.HeadHook2
import HandS.HeadHook3
import HandS.HeadHook4
import HandS.TupMul
import HandS.Zip
import HandS.More
import KE.SortData
import HandS.WideBits
import PyProof.ReprRoads
import PyProof.ReprBulk
import KE.KStrOpen
import PySem.Challenge.RW_willdealt_k16_what_a_whom_is
set_option Elab.async false
set_option linter.all false
set_option maxRecDepth 100000
set_option maxHeartbeats 0
/-! The data layer, part 1: data, what stands where, readings of expressions and statements. -/
namespace L2.WD
open PySem PySem.Spec PyProof.Rows

inductive D where
  | non | bl (b : Bool) | int (i : Int) | str (s : Str)
  | tup (xs : List D) | lst (xs : List D) | dic (kvs : List (Key × D))
  | obj (c : Nat) (fs : List (Str × D)) | exc (c : Nat) (fs : List (Str × D))
  | cls (c : Nat) | fn (f : Nat) | ty (n : String) | scr (ns : List Int)

/-- what the written part gives: it, the module's names, where the classes and defs stand -/
structure Ev where
  K : PySem.W.Frag
  mg : Str → Option Value
  ca : Nat → Addr
  fa : Nat → Addr

/-- a caught exception that is kept: its class, its dict -/
def exh (C a : Addr) (od : Option Addr) : HO := .ext fun h => ∃ (oe : Obj) (vs : Array Value), h.get? a = some oe ∧ oe.cls = .ref C ∧ oe.dict = od ∧ oe.data = .fields vs

mutual
inductive DR (e : Ev) (G : Hp) : V → D → Prop
  | non : DR e G .non .non
  | bl (b : Bool) : DR e G (.bl b) (.bl b)
  | int (i : Int) : DR e G (.int i) (.int i)
  | str (s : Str) : DR e G (.str s) (.str s)
  | tup {a : Addr} {xs : List V} {ds : List D} : SqT e.K G a xs → DRs e G xs ds → DR e G (.ref a) (.tup ds)
  | lst {a : Addr} {xs : List V} {ds : List D} : G a = some (.lst xs) → DRs e G xs ds → DR e G (.ref a) (.lst ds)
  | scr {a : Addr} {ns : List Int} : SqL e.K G a (ns.map V.int) → DR e G (.ref a) (.scr ns)
  | dic {a : Addr} {kvs : List (Key × V)} {ds : List (Key × D)} : G a = some (.dK kvs) → DRk e G kvs ds → DR e G (.ref a) (.dic ds)
  | obj {a dx : Addr} {c : Nat} {fs : List (Str × V)} {ds : List (Str × D)} : G a = some (.ins (e.ca c) dx fs) → G dx = some (.own a) → DRf e G fs ds → DR e G (.ref a) (.obj c ds)
  | exc0 {a : Addr} {c : Nat} : G a = some (exh (e.ca c) a none) → DR e G (.ref a) (.exc c [])
  | exc1 {a dd : Addr} {c : Nat} {fs : List (Str × V)} {ds : List (Str × D)} : G a = some (exh (e.ca c) a (some dd)) → G dd = some (.xd fs) → DRf e G fs ds → DR e G (.ref a) (.exc c ds)
  | cls (c : Nat) : DR e G (.ref (e.ca c)) (.cls c)
  | fn (f : Nat) : DR e G (.ref (e.fa f)) (.fn f)
  | ty (n : String) : DR e G (.ty n) (.ty n)
inductive DRs (e : Ev) (G : Hp) : List V → List D → Prop
  | nil : DRs e G [] []
  | cons {v : V} {vs : List V} {d : D} {ds : List D} : DR e G v d → DRs e G vs ds → DRs e G (v :: vs) (d :: ds)
inductive DRk (e : Ev) (G : Hp) : List (Key × V) → List (Key × D) → Prop
  | nil : DRk e G [] []
  | cons {k : Key} {v : V} {vs : List (Key × V)} {d : D} {ds : List (Key × D)} : DR e G v d → DRk e G vs ds → DRk e G ((k, v) :: vs) ((k, d) :: ds)
inductive DRf (e : Ev) (G : Hp) : List (Str × V) → List (Str × D) → Prop
  | nil : DRf e G [] []
  | cons {k : Str} {v : V} {vs : List (Str × V)} {d : D} {ds : List (Str × D)} : DR e G v d → DRf e G vs ds → DRf e G ((k, v) :: vs) ((k, d) :: ds)
end

theorem Same.seqT {K : PySem.W.Frag} {H H' : Hp} {a : Addr} {xs : List V} (e : L2.Same H H') (h : SqT K H a xs) : SqT K H' a xs := by
  rcases h with h | h
  · rcases h with h | ⟨o, h⟩
    · exact .inl (.inl (e _ _ h))
    · exact .inl (.inr ⟨o, e _ _ h⟩)
  · exact .inr h
theorem Same.seqL {K : PySem.W.Frag} {H H' : Hp} {a : Addr} {xs : List V} (e : L2.Same H H') (h : SqL K H a xs) : SqL K H' a xs := by
  rcases h with h | h
  · rcases h with h | ⟨o, h⟩
    · exact .inl (.inl (e _ _ h))
    · exact .inl (.inr ⟨o, e _ _ h⟩)
  · exact .inr h

section
variable {e : Ev} {G G' : Hp}
mutual
theorem DR.mono (s : L2.Same G G') : ∀ {v : V} {d : D}, DR e G v d → DR e G' v d
  | _, _, .non => .non
  | _, _, .bl b => .bl b
  | _, _, .int i => .int i
  | _, _, .str x => .str x
  | _, _, .tup h r => .tup (Same.seqT s h) (DRs.mono s r)
  | _, _, .lst h r => .lst (s _ _ h) (DRs.mono s r)
  | _, _, .scr h => .scr (Same.seqL s h)
  | _, _, .dic h r => .dic (s _ _ h) (DRk.mono s r)
  | _, _, .obj h h' r => .obj (s _ _ h) (s _ _ h') (DRf.mono s r)
  | _, _, .exc0 h => .exc0 (s _ _ h)
  | _, _, .exc1 h h' r => .exc1 (s _ _ h) (s _ _ h') (DRf.mono s r)
  | _, _, .cls c => .cls c
  | _, _, .fn f => .fn f
  | _, _, .ty n => .ty n
theorem DRs.mono (s : L2.Same G G') : ∀ {v : List V} {d : List D}, DRs e G v d → DRs e G' v d
  | _, _, .nil => .nil
  | _, _, .cons h r => .cons (DR.mono s h) (DRs.mono s r)
theorem DRk.mono (s : L2.Same G G') : ∀ {v : List (Key × V)} {d : List (Key × D)}, DRk e G v d → DRk e G' v d
  | _, _, .nil => .nil
  | _, _, .cons h r => .cons (DR.mono s h) (DRk.mono s r)
theorem DRf.mono (s : L2.Same G G') : ∀ {v : List (Str × V)} {d : List (Str × D)}, DRf e G v d → DRf e G' v d
  | _, _, .nil => .nil
  | _, _, .cons h r => .cons (DR.mono s h) (DRf.mono s r)
end
end

section
variable {e : Ev} {G : Hp}
theorem DRs.length : ∀ {vs : List V} {ds : List D}, DRs e G vs ds → vs.length = ds.length
  | _, _, .nil => rfl
  | _, _, .cons _ r => congrArg Nat.succ (DRs.length r)
theorem DRs.get : ∀ {vs : List V} {ds : List D} {i : Nat} {d : D}, DRs e G vs ds → ds[i]? = some d → ∃ v, vs[i]? = some v ∧ DR e G v d
  | _, _, _, _, .nil, h => by simp at h
  | _, _, 0, _, .cons r _, h => by simp at h; subst h; exact ⟨_, rfl, r⟩
  | _, _, i + 1, d, .cons _ t, h => by
    obtain ⟨v, h1, h2⟩ := DRs.get (i := i) (d := d) t (by simpa using h)
    exact ⟨v, by simpa using h1, h2⟩
theorem DRs.append : ∀ {vs ws : List V} {ds es : List D}, DRs e G vs ds → DRs e G ws es → DRs e G (vs ++ ws) (ds ++ es)
  | _, _, _, _, .nil, s => s
  | _, _, _, _, .cons r t, s => .cons r (DRs.append t s)
theorem DRs.take : ∀ {vs : List V} {ds : List D} (n : Nat), DRs e G vs ds → DRs e G (vs.take n) (ds.take n)
  | _, _, 0, _ => by simp; exact .nil
  | _, _, n + 1, .nil => by simp; exact .nil
  | _, _, n + 1, .cons r t => by simp; exact .cons r (DRs.take n t)
theorem DRs.drop : ∀ {vs : List V} {ds : List D} (n : Nat), DRs e G vs ds → DRs e G (vs.drop n) (ds.drop n)
  | _, _, 0, r => by simpa using r
  | _, _, n + 1, .nil => by simp; exact .nil
  | _, _, n + 1, .cons r t => by simp; exact DRs.drop n t
theorem DRs.set {v : V} {d : D} (h : DR e G v d) : ∀ {vs : List V} {ds : List D} (n : Nat), DRs e G vs ds → DRs e G (vs.set n v) (ds.set n d)
  | _, _, _, .nil => .nil
  | _, _, 0, .cons _ t => .cons h t
  | _, _, n + 1, .cons r t => .cons r (DRs.set h n t)
theorem DRs.ints : ∀ {vs : List V} {ns : List Int}, DRs e G vs (ns.map D.int) → vs = ns.map V.int
  | _, [], h => by cases h; rfl
  | _, n :: ns, h => by
    cases h with
    | cons r t =>
      cases r
      rw [DRs.ints t, List.map_cons]
theorem DRs.of_ints : ∀ (ns : List Int), DRs e G (ns.map V.int) (ns.map D.int)
  | [] => .nil
  | n :: ns => .cons (.int n) (DRs.of_ints ns)
theorem DRs.bls : ∀ {vs : List V} {ns : List Bool}, DRs e G vs (ns.map D.bl) → vs = ns.map V.bl
  | _, [], h => by cases h; rfl
  | _, n :: ns, h => by
    cases h with
    | cons r t =>
      cases r
      rw [DRs.bls t, List.map_cons]
theorem DRs.strs : ∀ {vs : List V} {ns : List Str}, DRs e G vs (ns.map D.str) → vs = ns.map V.str
  | _, [], h => by cases h; rfl
  | _, n :: ns, h => by
    cases h with
    | cons r t =>
      cases r
      rw [DRs.strs t, List.map_cons]
theorem DRs.of_strs : ∀ (ns : List Str), DRs e G (ns.map V.str) (ns.map D.str)
  | [] => .nil
  | n :: ns => .cons (.str n) (DRs.of_strs ns)
theorem DRf.lookup {f : Str} : ∀ {vs : List (Str × V)} {ds : List (Str × D)} {d : D}, DRf e G vs ds → ds.lookup f = some d → ∃ v, vs.lookup f = some v ∧ DR e G v d
  | _, _, _, .nil, h => by cases h
  | _, _, d, .cons (k := k) (v := v) r t, h => by
    rw [List.lookup_cons] at h ⊢
    cases q : (f == k) with
    | true =>
      rw [q] at h
      cases h
      exact ⟨v, rfl, r⟩
    | false =>
      rw [q] at h
      exact DRf.lookup t h
theorem DRf.lookup_none {f : Str} : ∀ {vs : List (Str × V)} {ds : List (Str × D)}, DRf e G vs ds → ds.lookup f = none → vs.lookup f = none
  | _, _, .nil, _ => rfl
  | _, _, .cons (k := k) r t, h => by
    rw [List.lookup_cons] at h ⊢
    cases q : (f == k) with
    | true => rw [q] at h; cases h
    | false =>
      rw [q] at h
      exact DRf.lookup_none t h
theorem DRf.length : ∀ {vs : List (Str × V)} {ds : List (Str × D)}, DRf e G vs ds → vs.length = ds.length
  | _, _, .nil => rfl
  | _, _, .cons _ r => congrArg Nat.succ (DRf.length r)
end

/-! ### slots -/
/-- what a slot holds: nothing known, a thing that stays as it is, a list (an instance) of one's own (p: of the caller's) -/
inductive Sl where
  | no | fz (d : D) | ow (p : Bool) (xs : List D) | oo (p : Bool) (c : Nat) (fs : List (Str × D))

def Sl.owned : Sl → Bool
  | .ow _ _ => true
  | .oo _ _ _ => true
  | _ => false
def Sl.mine : Sl → Bool
  | .ow p _ => p
  | .oo p _ _ => p
  | _ => false
/-- the things of the own list, instance -/
inductive OwR (e : Ev) (Fo G H : Hp) (b : Addr) : Sl → Prop
  | ow {p : Bool} {vs : List V} {xs : List D} : H b = some (.lst vs) → DRs e G vs xs → G b = none → Fo b = none → OwR e Fo G H b (.ow p xs)
  | oo {p : Bool} {c : Nat} {dx : Addr} {ws : List (Str × V)} {fs : List (Str × D)} : H b = some (.ins (e.ca c) dx ws) → H dx = some (.own b) → DRf e G ws fs → G b = none → G dx = none → Fo b = none → Fo dx = none → OwR e Fo G H b (.oo p c fs)
/-- a value and what it is said to be -/
inductive SlR (e : Ev) (Fo G H : Hp) : Option V → Sl → Prop
  | no {o : Option V} : SlR e Fo G H o .no
  | fz {v : V} {d : D} : DR e G v d → SlR e Fo G H (some v) (.fz d)
  | own {b : Addr} {s : Sl} : OwR e Fo G H b s → SlR e Fo G H (some (.ref b)) s

inductive SlRs (e : Ev) (Fo G H : Hp) : St → List Sl → Prop
  | nil : SlRs e Fo G H [] []
  | cons {o : Option V} {s : Sl} {σ : St} {ρ : List Sl} : SlR e Fo G H o s → SlRs e Fo G H σ ρ → SlRs e Fo G H (o :: σ) (s :: ρ)

/-- no two own things are one -/
def Apart (σ : St) (ρ : List Sl) : Prop := ∀ (i j : Nat) (b : Addr) (s t : Sl), ρ[i]? = some s → ρ[j]? = some t → s.owned = true → t.owned = true → σ[i]? = some (some (V.ref b)) → σ[j]? = some (some (V.ref b)) → i = j

structure Rel (e : Ev) (Fo G : Hp) (σ : St) (H : Hp) (ρ : List Sl) : Prop where
  gh : L2.Same G H
  fh : L2.Same Fo H
  fg : ∀ b o, Fo b = some o → G b = none
  sl : SlRs e Fo G H σ ρ
  ap : Apart σ ρ

/-- a value that was made: a thing, or one's own, which no slot has -/
def Val (e : Ev) (Fo G : Hp) (σ : St) (H : Hp) (ρ : List Sl) (v : V) (s : Sl) : Prop :=
  SlR e Fo G H (some v) s ∧ s.mine = false ∧ (s.owned = true → ∀ (b : Addr) (i : Nat) (t : Sl), v = V.ref b → ρ[i]? = some t → t.owned = true → σ[i]? ≠ some (some (V.ref b)))

theorem SlRs.get {e : Ev} {Fo G H : Hp} : ∀ {σ : St} {ρ : List Sl} {i : Nat} {s : Sl}, SlRs e Fo G H σ ρ → ρ[i]? = some s → ∃ o, σ[i]? = some o ∧ SlR e Fo G H o s
  | _, _, _, _, .nil, h => by simp at h
  | _, _, 0, _, .cons r _, h => by simp at h; subst h; exact ⟨_, rfl, r⟩
  | _, _, i + 1, s, .cons _ t, h => by
    obtain ⟨v, h1, h2⟩ := SlRs.get (i := i) (s := s) t (by simpa using h)
    exact ⟨v, by simpa using h1, h2⟩
theorem SlRs.length {e : Ev} {Fo G H : Hp} : ∀ {σ : St} {ρ : List Sl}, SlRs e Fo G H σ ρ → σ.length = ρ.length
  | _, _, .nil => rfl
  | _, _, .cons _ t => congrArg Nat.succ (SlRs.length t)
theorem SlRs.set {e : Ev} {Fo G H : Hp} {o : Option V} {s : Sl} (h : SlR e Fo G H o s) : ∀ {σ : St} {ρ : List Sl} (i : Nat), SlRs e Fo G H σ ρ → SlRs e Fo G H (σ.set i o) (ρ.set i s)
  | _, _, _, .nil => .nil
  | _, _, 0, .cons _ t => .cons h t
  | _, _, i + 1, .cons r t => .cons r (SlRs.set h i t)
/-- a slot is said to be something else, the value staying -/
theorem SlRs.setR {e : Ev} {Fo G H : Hp} {s : Sl} : ∀ {σ : St} {ρ : List Sl} (i : Nat), SlRs e Fo G H σ ρ → (∀ o, σ[i]? = some o → SlR e Fo G H o s) → SlRs e Fo G H σ (ρ.set i s)
  | _, _, _, .nil, _ => .nil
  | _, _, 0, .cons _ t, h => .cons (h _ rfl) t
  | _, _, i + 1, .cons r t, h => .cons r (SlRs.setR i t fun o q => h o (by simpa using q))
theorem SlRs.imp {e : Ev} {Fo G H Fo' G' H' : Hp} : ∀ {σ : St} {ρ : List Sl}, SlRs e Fo G H σ ρ → (∀ (i : Nat) (o : Option V) (s : Sl), σ[i]? = some o → ρ[i]? = some s → SlR e Fo G H o s → SlR e Fo' G' H' o s) → SlRs e Fo' G' H' σ ρ
  | _, _, .nil, _ => .nil
  | _, _, .cons r t, h => .cons (h 0 _ _ rfl rfl r) (SlRs.imp t fun i o s h1 h2 => h (i + 1) o s (by simpa using h1) (by simpa using h2))

section
variable {e : Ev} {Fo G G' H H' : Hp} {σ : St} {ρ : List Sl} {p : Addr} {o : HO} {v : V} {d : D} {s : Sl}
theorem OwR.at (h : OwR e Fo G H p s) : (∃ o, H p = some o ∧ Mut (some o)) ∧ G p = none ∧ Fo p = none ∧ s.owned = true := by
  cases h with
  | ow h1 h2 h3 h4 => exact ⟨⟨_, h1, trivial⟩, h3, h4, rfl⟩
  | oo h1 h2 h3 h4 h5 h6 h7 => exact ⟨⟨_, h1, trivial⟩, h4, h6, rfl⟩
theorem SlR.owned {o : Option V} (h : SlR e Fo G H o s) (hs : s.owned = true) : ∃ b, o = some (.ref b) ∧ OwR e Fo G H b s := by
  cases h with
  | no => cases hs
  | fz _ => cases hs
  | own q => exact ⟨_, rfl, q⟩
theorem OwR.grow (h : OwR e Fo G H p s) (g : L2.Same G G') (hh : L2.Same H H') (n : ∀ b, H b ≠ none → G b = none → G' b = none) : OwR e Fo G' H' p s := by
  cases h with
  | ow h1 h2 h3 h4 => exact .ow (hh _ _ h1) (h2.mono g) (n _ (by rw [h1]; exact fun z => nomatch z) h3) h4
  | oo h1 h2 h3 h4 h5 h6 h7 => exact .oo (hh _ _ h1) (hh _ _ h2) (h3.mono g) (n _ (by rw [h1]; exact fun z => nomatch z) h4) (n _ (by rw [h2]; exact fun z => nomatch z) h5) h6 h7
theorem SlR.grow {o : Option V} (h : SlR e Fo G H o s) (g : L2.Same G G') (hh : L2.Same H H') (n : ∀ b, H b ≠ none → G b = none → G' b = none) : SlR e Fo G' H' o s := by
  cases h with
  | no => exact .no
  | fz r => exact .fz (r.mono g)
  | own q => exact .own (q.grow g hh n)
/-- the heap and what is known of it grow -/
theorem Rel.grow (R : Rel e Fo G σ H ρ) (g : L2.Same G G') (hh : L2.Same H H') (gh : L2.Same G' H') (n : ∀ b, H b ≠ none → G b = none → G' b = none) : Rel e Fo G' σ H' ρ :=
  ⟨gh, R.fh.trans hh, fun b o h => n b (by rw [R.fh _ _ h]; exact fun z => nomatch z) (R.fg b o h), R.sl.imp fun i o s _ _ r => r.grow g hh n, R.ap⟩
theorem Rel.gnone (R : Rel e Fo G σ H ρ) (n : H p = none) : G p = none := by
  cases q : G p with
  | none => rfl
  | some o => rw [R.gh _ _ q] at n; cases n
theorem Rel.fnone (R : Rel e Fo G σ H ρ) (n : H p = none) : Fo p = none := by
  cases q : Fo p with
  | none => rfl
  | some o => rw [R.fh _ _ q] at n; cases n
theorem same_upd (n : H p = none) : L2.Same H (upd H p o) := fun b u q => by
  rw [upd_ne (ne_of_none q n)]
  exact q
/-- a new object is laid, not known of -/
theorem Rel.lay (R : Rel e Fo G σ H ρ) (n : H p = none) : Rel e Fo G σ (upd H p o) ρ :=
  R.grow (L2.Same.refl _) (same_upd n) (R.gh.trans (same_upd n)) fun _ _ h => h
/-- a new object is laid, and known of -/
theorem Rel.lay2 (R : Rel e Fo G σ H ρ) (n : H p = none) : Rel e Fo (upd G p o) σ (upd H p o) ρ :=
  R.grow (same_upd (R.gnone n)) (same_upd n) (fun b u q => by
    by_cases hb : b = p
    · subst hb
      rw [upd_same] at q ⊢
      exact q
    · rw [upd_ne hb] at q ⊢
      exact R.gh _ _ q) fun b hb h => by
    rw [upd_ne (fun z => hb (by rw [z]; exact n))]
    exact h
/-- .. where it is laid already, no one's own -/
theorem Rel.know (R : Rel e Fo G σ H ρ) (h : H p = some o) (hf : Fo p = none) (hg : G p = none) (hn : ∀ (i : Nat) (s : Sl) (b dx : Addr), ρ[i]? = some s → s.owned = true → σ[i]? = some (some (V.ref b)) → b ≠ p ∧ (H dx = some (.own b) → dx ≠ p)) : Rel e Fo (upd G p o) σ H ρ :=
  ⟨fun b u q => by
    by_cases hb : b = p
    · subst hb
      rw [upd_same] at q
      rw [← q]
      exact h
    · rw [upd_ne hb] at q
      exact R.gh _ _ q, R.fh, fun b u q => by
    rw [upd_ne (ne_of_none q hf)]
    exact R.fg b u q, R.sl.imp fun i o s h1 h2 r => by
    cases r with
    | no => exact .no
    | fz r => exact .fz (r.mono (same_upd hg))
    | own q =>
      have ho := q.at.2.2.2
      have hne := fun dx => hn i s _ dx h2 ho h1
      cases q with
      | ow k1 k2 k3 k4 => exact .own (.ow k1 (k2.mono (same_upd hg)) (by rw [upd_ne (hne 0).1]; exact k3) k4)
      | oo k1 k2 k3 k4 k5 k6 k7 => exact .own (.oo k1 k2 (k3.mono (same_upd hg)) (by rw [upd_ne (hne 0).1]; exact k4) (by rw [upd_ne ((hne _).2 k2)]; exact k5) k6 k7), R.ap⟩
theorem Rel.get {i : Nat} (R : Rel e Fo G σ H ρ) (h : ρ[i]? = some s) : ∃ o, σ[i]? = some o ∧ SlR e Fo G H o s := R.sl.get h
theorem Rel.len (R : Rel e Fo G σ H ρ) : σ.length = ρ.length := R.sl.length
end
end L2.WD
/-! The data layer, part 2: what an expression and a statement come to; the readings; the plain statements. -/
namespace L2.WD
open PySem PySem.Spec PyProof.Rows

/-- what an expression, a call comes to: the slots behind it, and its value -/
inductive Re (α : Type) where
  | ok (ρ : List Sl) (a : α) | exc (ρ : List Sl) (c : Nat) (fs : List (Str × D)) | bad
/-- what a statement comes to -/
inductive Out where
  | nx (ρ : List Sl) | rt (ρ : List Sl) (s : Sl) | bk (ρ : List Sl) | ct (ρ : List Sl) | exc (ρ : List Sl) (c : Nat) (fs : List (Str × D)) | bad
@[reducible] def Mo (α : Type) : Type := List Sl → Re α
def Mo.bind {α γ : Type} (f : Mo α) (k : α → Mo γ) : Mo γ := fun ρ => match f ρ with
  | .ok ρ' a => k a ρ'
  | .exc ρ' c fs => .exc ρ' c fs
  | .bad => .bad
def Mo.pure {α : Type} (a : α) : Mo α := fun ρ => .ok ρ a

def Keep (ρ ρ' : List Sl) : Prop := ∀ (i : Nat) (s : Sl), ρ[i]? = some s → s.mine = true → ∃ s', ρ'[i]? = some s' ∧ s'.mine = true
theorem Keep.refl (ρ : List Sl) : Keep ρ ρ := fun _ s h m => ⟨s, h, m⟩
theorem Keep.trans {ρ ρ1 ρ2 : List Sl} (a : Keep ρ ρ1) (b : Keep ρ1 ρ2) : Keep ρ ρ2 := fun i s h m => by
  obtain ⟨s1, h1, m1⟩ := a i s h m
  exact b i s1 h1 m1
def KeepS (σ : St) (ρ : List Sl) (σ' : St) (ρ' : List Sl) : Prop := ∀ (i : Nat) (s : Sl), ρ[i]? = some s → s.mine = true → σ'[i]? = σ[i]? ∧ ∃ s', ρ'[i]? = some s' ∧ s'.mine = true
theorem KeepS.refl (σ : St) (ρ : List Sl) : KeepS σ ρ σ ρ := fun _ s h m => ⟨rfl, s, h, m⟩
theorem Keep.toS {σ : St} {ρ ρ' : List Sl} (k : Keep ρ ρ') : KeepS σ ρ σ ρ' := fun i s h m => ⟨rfl, k i s h m⟩
theorem KeepS.trans {σ σ1 σ2 : St} {ρ ρ1 ρ2 : List Sl} (a : KeepS σ ρ σ1 ρ1) (b : KeepS σ1 ρ1 σ2 ρ2) : KeepS σ ρ σ2 ρ2 := fun i s h m => by
  obtain ⟨e1, s1, h1, m1⟩ := a i s h m
  obtain ⟨e2, r⟩ := b i s1 h1 m1
  exact ⟨e2.trans e1, r⟩

/-- an exception in the air -/
inductive ExcR (e : Ev) (G : Hp) (c : Nat) : List (Str × D) → Value → Option Addr → Prop
  | e0 : ExcR e G c [] (.ref (e.ca c)) none
  | e1 {dd : Addr} {ws : List (Str × V)} {fs : List (Str × D)} : G dd = some (.xd ws) → DRf e G ws fs → ExcR e G c fs (.ref (e.ca c)) (some dd)

abbrev RlT (α β : Type) : Type := Ev → Hp → Hp → St → Hp → List Sl → β → α → Prop
section
variable {α β γ δ : Type}
def PostE (e : Ev) (W : WX) (Fo G : Hp) (σ : St) (ρ ρ' : List Sl) (c : Nat) (fs : List (Str × D)) : Prop :=
  ∀ (G' H' : Hp) (cls : Value) (od : Option Addr), L2.Same G G' → Keep ρ ρ' → Rel e Fo G' σ H' ρ' → ExcR e G' c fs cls od → W cls od σ H'
def Post (e : Ev) (W : WX) (Rl : RlT α β) (Fo G : Hp) (σ : St) (ρ : List Sl) (r : Re α) (Q : β → Hp → Prop) : Prop := match r with
  | .ok ρ' a => ∀ (G' H' : Hp) (v : β), L2.Same G G' → Keep ρ ρ' → Rel e Fo G' σ H' ρ' → Rl e Fo G' σ H' ρ' v a → Q v H'
  | .exc ρ' c fs => PostE e W Fo G σ ρ ρ' c fs
  | .bad => False
def tG (e : Ev) (W : WX) (Rl : RlT α β) (f : Mo α) : St → Hp → (β → Hp → Prop) → Prop := fun σ H Q =>
  ∃ (Fo G : Hp) (ρ : List Sl), Rel e Fo G σ H ρ ∧ Post e W Rl Fo G σ ρ (f ρ) Q
variable {e : Ev} {W : WX} {Rl : RlT α β} {Rl2 : RlT γ δ} {Fo G G' H H' : Hp} {σ : St} {ρ ρ' : List Sl}
theorem PostE.from {ρ2 : List Sl} {c : Nat} {fs : List (Str × D)} (h : PostE e W Fo G σ ρ ρ2 c fs) (g : L2.Same G G') (k : Keep ρ ρ') : PostE e W Fo G' σ ρ' ρ2 c fs :=
  fun G2 H2 cls od g2 k2 => h G2 H2 cls od (g.trans g2) (k.trans k2)
theorem Post.from {r : Re α} {Q : β → Hp → Prop} (h : Post e W Rl Fo G σ ρ r Q) (g : L2.Same G G') (k : Keep ρ ρ') : Post e W Rl Fo G' σ ρ' r Q := by
  cases r with
  | ok ρ2 a => exact fun G2 H2 v g2 k2 => h G2 H2 v (g.trans g2) (k.trans k2)
  | exc ρ2 c fs => exact PostE.from h g k
  | bad => exact h
theorem Post.mono {r : Re α} {Q Q' : β → Hp → Prop} (h : Post e W Rl Fo G σ ρ r Q) (q : ∀ v H, Q v H → Q' v H) : Post e W Rl Fo G σ ρ r Q' := by
  cases r with
  | ok ρ2 a => exact fun G2 H2 v g2 k2 R r => q _ _ (h G2 H2 v g2 k2 R r)
  | exc ρ2 c fs => exact h
  | bad => exact h
theorem tG.mono {f : Mo α} {Q Q' : β → Hp → Prop} (h : tG e W Rl f σ H Q) (q : ∀ v H, Q v H → Q' v H) : tG e W Rl f σ H Q' := by
  obtain ⟨Fo, G, ρ, R, p⟩ := h
  exact ⟨Fo, G, ρ, R, p.mono q⟩
/-- an expression ahead of the rest -/
theorem Post.bind {f : Mo α} {k : α → Mo γ} {Q : δ → Hp → Prop} (R : Rel e Fo G σ H ρ) (h : Post e W Rl2 Fo G σ ρ (Mo.bind f k ρ) Q) :
    tG e W Rl f σ H fun v H1 => ∃ (G' : Hp) (ρ' : List Sl) (a : α), L2.Same G G' ∧ Rel e Fo G' σ H1 ρ' ∧ Rl e Fo G' σ H1 ρ' v a ∧ Post e W Rl2 Fo G' σ ρ' (k a ρ') Q := by
  refine ⟨Fo, G, ρ, R, ?_⟩
  unfold Mo.bind at h
  cases q : f ρ with
  | ok ρ1 a =>
    rw [q] at h
    exact fun G' H' v g kp R' r => ⟨G', ρ1, a, g, R', r, h.from g kp⟩
  | exc ρ1 c fs =>
    rw [q] at h
    exact h
  | bad =>
    rw [q] at h
    exact h
/-- the end, nothing having changed -/
theorem Post.here {a : α} {Q : β → Hp → Prop} {v : β} (R : Rel e Fo G σ H ρ) (h : Post e W Rl Fo G σ ρ (.ok ρ a) Q) (r : Rl e Fo G σ H ρ v a) : Q v H := h G H v (L2.Same.refl _) (Keep.refl _) R r
end

/-! ### operands -/
/-- an operand: a thing, or what slot i holds -/
inductive Ar where
  | vl (d : D) | sl (i : Nat)
def ArR : RlT Ar V := fun e _ G σ _ _ v a => match a with
  | .vl d => DR e G v d
  | .sl i => σ[i]? = some (some v)
inductive ArRs (e : Ev) (G : Hp) (σ : St) : List V → List Ar → Prop
  | nil : ArRs e G σ [] []
  | cons {v : V} {a : Ar} {vs : List V} {as : List Ar} : ArR e G G σ G [] v a → ArRs e G σ vs as → ArRs e G σ (v :: vs) (a :: as)
def ArRsL : RlT (List Ar) (List V) := fun e _ G σ _ _ vs as => ArRs e G σ vs as
def TRl : RlT Bool Bool := fun _ _ _ _ _ _ v a => v = a
abbrev tX (e : Ev) (W : WX) (f : Mo Sl) : TE := tG e W (fun e Fo G σ H ρ v s => Val e Fo G σ H ρ v s) f
abbrev tO (e : Ev) (W : WX) (f : Mo Ar) : TE := tG e W ArR f
abbrev tA (e : Ev) (W : WX) (f : Mo (List Ar)) : TA := tG e W ArRsL f
abbrev tT (e : Ev) (W : WX) (f : Mo Bool) : TT := tG e W TRl f
/-- what an operand is, the slots being so -/
def con (ρ : List Sl) : Ar → Option D
  | .vl d => some d
  | .sl i => match ρ[i]? with
    | some (.fz d) => some d
    | some (.ow _ xs) => some (.lst xs)
    | _ => none
/-- a thing that is read: it stays, or it is an own list -/
inductive CoR (e : Ev) (G H : Hp) : V → D → Prop
  | st {v : V} {d : D} : DR e G v d → CoR e G H v d
  | ow {b : Addr} {ws : List V} {xs : List D} : H b = some (.lst ws) → DRs e G ws xs → CoR e G H (.ref b) (.lst xs)
section
variable {e : Ev} {W : WX} {Fo G G' H H' : Hp} {σ : St} {ρ ρ' : List Sl}
theorem ArR.mono {v : V} {a : Ar} {Fo' H' : Hp} {ρ' : List Sl} (h : ArR e Fo G σ H ρ v a) (g : L2.Same G G') : ArR e Fo' G' σ H' ρ' v a := by
  cases a with
  | vl d => exact DR.mono g h
  | sl i => exact h
theorem ArRs.mono (g : L2.Same G G') : ∀ {vs : List V} {as : List Ar}, ArRs e G σ vs as → ArRs e G' σ vs as
  | _, _, .nil => .nil
  | _, _, .cons h r => .cons (ArR.mono h g) (ArRs.mono g r)
theorem ArR.co {v : V} {a : Ar} {d : D} (R : Rel e Fo G σ H ρ) (h : ArR e Fo G σ H ρ v a) (c : con ρ a = some d) : CoR e G H v d := by
  cases a with
  | vl d' =>
    cases c
    exact .st h
  | sl i =>
    have hs : σ[i]? = some (some v) := h
    unfold con at c
    cases q : ρ[i]? with
    | none => simp only [q] at c; cases c
    | some s =>
      simp only [q] at c
      obtain ⟨o, h1, h2⟩ := R.get q
      rw [hs] at h1
      cases h1
      cases s with
      | no => cases c
      | fz d' =>
        cases c
        cases h2 with
        | fz r => exact .st r
        | own r => cases r
      | ow p xs =>
        cases c
        cases h2 with
        | own r =>
          cases r with
          | ow k1 k2 k3 k4 => exact .ow k1 k2
      | oo p c fs => cases c
theorem CoR.lst {v : V} {xs : List D} (g : L2.Same G H) (h : CoR e G H v (.lst xs)) : ∃ b ws, v = .ref b ∧ H b = some (.lst ws) ∧ DRs e G ws xs := by
  cases h with
  | st r =>
    cases r with
    | lst a b => exact ⟨_, _, rfl, g _ _ a, b⟩
  | ow a b => exact ⟨_, _, rfl, a, b⟩
theorem CoR.tup {v : V} {xs : List D} (g : L2.Same G H) (h : CoR e G H v (.tup xs)) : ∃ b ws, v = .ref b ∧ SqT e.K H b ws ∧ DRs e G ws xs := by
  cases h with
  | st r =>
    cases r with
    | tup a b => exact ⟨_, _, rfl, Same.seqT g a, b⟩
theorem CoR.scr {v : V} {ns : List Int} (g : L2.Same G H) (h : CoR e G H v (.scr ns)) : ∃ b, v = .ref b ∧ SqL e.K H b (ns.map V.int) := by
  cases h with
  | st r =>
    cases r with
    | scr a => exact ⟨_, rfl, Same.seqL g a⟩
theorem CoR.int {v : V} {i : Int} (h : CoR e G H v (.int i)) : v = .int i := by
  cases h with
  | st r => cases r; rfl
theorem CoR.bl {v : V} {i : Bool} (h : CoR e G H v (.bl i)) : v = .bl i := by
  cases h with
  | st r => cases r; rfl
theorem CoR.str {v : V} {i : Str} (h : CoR e G H v (.str i)) : v = .str i := by
  cases h with
  | st r => cases r; rfl
theorem CoR.non {v : V} (h : CoR e G H v .non) : v = .non := by
  cases h with
  | st r => cases r; rfl
theorem CoR.dr {v : V} {d : D} (h : CoR e G H v d) (n : ∀ xs, d ≠ .lst xs) : DR e G v d := by
  cases h with
  | st r => exact r
  | ow a b => exact absurd rfl (n _)
end

/-! ### contexts -/
structure EC (X : Cx) (e : Ev) (W : WX) : Prop where
  K : X.K = e.K
  mg : X.mg = e.mg
  nd : X.N.Nodup
  tk : Takes X W
  hp : PassesOwn (model X.prog X.w) X.A X.env X.xe

/-! ### what a made thing is -/
/-- a thing made by an operation that keeps what stood: it stays, or is a new list of one's own -/
def New (e : Ev) (H G' H' : Hp) (v : V) : Sl → Prop
  | .fz d => DR e G' v d
  | .ow p xs => p = false ∧ ∃ b ws, v = .ref b ∧ H b = none ∧ H' b = some (.lst ws) ∧ DRs e G' ws xs ∧ G' b = none
  | _ => False
/-- growth -/
structure Gr (G H G' H' : Hp) : Prop where
  g : L2.Same G G'
  h : L2.Same H H'
  gh : L2.Same G' H'
  n : ∀ b, H b ≠ none → G b = none → G' b = none
section
variable {e : Ev} {W : WX} {Fo G G' H H' : Hp} {σ : St} {ρ ρ' : List Sl} {p : Addr}
theorem Gr.refl (g : L2.Same G H) : Gr G H G H := ⟨L2.Same.refl _, L2.Same.refl _, g, fun _ _ h => h⟩
theorem Gr.lay {o : HO} (g : L2.Same G H) (n : H p = none) : Gr G H G (upd H p o) := ⟨L2.Same.refl _, same_upd n, g.trans (same_upd n), fun _ _ h => h⟩
theorem Gr.lay2 {o : HO} (g : L2.Same G H) (n : H p = none) : Gr G H (upd G p o) (upd H p o) := by
  have gn : G p = none := g.free n
  refine ⟨same_upd gn, same_upd n, fun b u q => ?_, fun b hb h => ?_⟩
  · by_cases hb : b = p
    · subst hb
      rw [upd_same] at q ⊢
      exact q
    · rw [upd_ne hb] at q ⊢
      exact g _ _ q
  · rw [upd_ne (fun z => hb (by rw [z]; exact n))]
    exact h
theorem Gr.trans {G2 H2 : Hp} (a : Gr G H G' H') (b : Gr G' H' G2 H2) : Gr G H G2 H2 :=
  ⟨a.g.trans b.g, a.h.trans b.h, b.gh, fun c hc h => b.n c (fun z => hc (a.h.free z)) (a.n c hc h)⟩
theorem Rel.gr (R : Rel e Fo G σ H ρ) (g : Gr G H G' H') : Rel e Fo G' σ H' ρ := R.grow g.g g.h g.gh g.n
theorem New.val {v : V} {s : Sl} (R : Rel e Fo G σ H ρ) (g : Gr G H G' H') (n : New e H G' H' v s) : Val e Fo G' σ H' ρ v s := by
  cases s with
  | no => exact n.elim
  | fz d => exact ⟨.fz n, rfl, fun z => nomatch z⟩
  | oo p c fs => exact n.elim
  | ow p xs =>
    obtain ⟨rfl, b, ws, rfl, h1, h2, h3, h4⟩ := n
    refine ⟨.own (.ow h2 h3 h4 (R.fnone h1)), rfl, fun _ c i t ev ht ho hs => ?_⟩
    cases ev
    obtain ⟨o, k1, k2⟩ := R.get ht
    rw [hs] at k1
    cases k1
    obtain ⟨b', e', k3⟩ := k2.owned ho
    cases e'
    obtain ⟨⟨o, k4, _⟩, _⟩ := k3.at
    rw [h1] at k4
    cases k4
/-- the end of an operation -/
theorem Post.new {s : Sl} {Q : VK} {v : V} (R : Rel e Fo G σ H ρ) (h : Post e W (fun e Fo G σ H ρ v s => Val e Fo G σ H ρ v s) Fo G σ ρ (.ok ρ s) Q) (g : Gr G H G' H') (n : New e H G' H' v s) : Q v H' :=
  h G' H' v g.g (Keep.refl _) (R.gr g) (n.val R g)
theorem Post.newO {d : D} {Q : VK} {v : V} (R : Rel e Fo G σ H ρ) (h : Post e W ArR Fo G σ ρ (.ok ρ (.vl d)) Q) (g : Gr G H G' H') (n : DR e G' v d) : Q v H' :=
  h G' H' v g.g (Keep.refl _) (R.gr g) n
end

/-! ### expressions: names, constants -/
def nmO (i : Nat) : Mo Ar := fun ρ => match ρ[i]? with
  | some (.fz _) => .ok ρ (.sl i)
  | some (.ow _ _) => .ok ρ (.sl i)
  | some (.oo _ _ _) => .ok ρ (.sl i)
  | _ => .bad
def cO (d : D) : Mo Ar := fun ρ => .ok ρ (.vl d)
def frz : Sl → Option D
  | .fz d => some d
  | .ow false xs => some (.lst xs)
  | .oo false c fs => some (.obj c fs)
  | _ => none
def frzD (f : Mo Sl) : Mo D := Mo.bind f fun s ρ => match frz s with
  | some d => .ok ρ d
  | none => .bad
def frzO (f : Mo Sl) : Mo Ar := Mo.bind (frzD f) fun d ρ => .ok ρ (.vl d)
def DRl : RlT D V := fun e _ G _ _ _ v d => DR e G v d
abbrev tD (e : Ev) (W : WX) (f : Mo D) : TE := tG e W DRl f
/-- an operand as a thing that stays -/
def valO (f : Mo Ar) : Mo Sl := Mo.bind f fun a ρ => match a with
  | .vl d => .ok ρ (.fz d)
  | .sl i => match ρ[i]? with
    | some (.fz d) => .ok ρ (.fz d)
    | _ => .bad
section
variable {X : Cx} {e : Ev} {W : WX} {ex : Expr} {pos : Pos}
theorem _root_.L2.PE.imp {t t' : TE} (h : PE X ex t) (i : ∀ σ H Q, t' σ H Q → t σ H Q) : PE X ex t' := ⟨fun pins s σ H Q I w => h.run pins s σ H Q I (i σ H Q w)⟩
theorem _root_.L2.PT.imp {t t' : TT} (h : PT X ex t) (i : ∀ σ H Q, t' σ H Q → t σ H Q) : PT X ex t' := ⟨fun pins s σ H Q I w => h.run pins s σ H Q I (i σ H Q w)⟩
theorem _root_.L2.PW.imp {t t' : TT} (h : PW X ex t) (i : ∀ σ H Q, t' σ H Q → t σ H Q) : PW X ex t' := ⟨fun wh pins s σ H Q I w => h.run wh pins s σ H Q I (i σ H Q w)⟩
theorem _root_.L2.PA.imp {es : List Expr} {t t' : TA} (h : PA X es t) (i : ∀ σ H Q, t' σ H Q → t σ H Q) : PA X es t' := ⟨fun p pins s σ H Q I w => h.run p pins s σ H Q I (i σ H Q w)⟩
theorem _root_.L2.PS.imp {st : Stmt} {t t' : TS} (h : PS X st t) (i : ∀ D σ H, t' D σ H → t D σ H) : PS X st t' := ⟨fun pins s σ H D I w => h.run pins s σ H D I (i D σ H w)⟩
theorem _root_.L2.PSs.imp {st : List Stmt} {t t' : TS} (h : PSs X st t) (i : ∀ D σ H, t' D σ H → t D σ H) : PSs X st t' := ⟨fun pins s σ H D I w => h.run pins s σ H D I (i D σ H w)⟩

theorem xo_name {i : Nat} {x : Str} (h : PE X (.Name x pos) (tVar i)) : PE X (.Name x pos) (tO e W (nmO i)) := h.imp fun σ H Q ⟨Fo, G, ρ, R, p⟩ => by
  unfold nmO at p
  cases q : ρ[i]? with
  | none => rw [q] at p; exact p.elim
  | some s =>
    rw [q] at p
    obtain ⟨o, h1, h2⟩ := R.get q
    cases s with
    | no => exact p.elim
    | fz d =>
      cases h2 with
      | fz r => exact ⟨_, h1, p.here R h1⟩
      | own r => cases r
    | ow m xs =>
      cases h2 with
      | own r => exact ⟨_, h1, p.here R h1⟩
    | oo m c fs =>
      cases h2 with
      | own r => exact ⟨_, h1, p.here R h1⟩
theorem xo_con {v : V} {d : D} (h : PE X ex (tC v)) (r : ∀ G, DR e G v d) : PE X ex (tO e W (cO d)) := h.imp fun σ H Q ⟨Fo, G, ρ, R, p⟩ => p.here R (r G)
theorem xo_int {i : Int} {j : Nat} : PE X (.Constant (.int i) j pos) (tO e W (cO (.int i))) := xo_con pe_int fun _ => .int i
theorem xo_bl {b : Bool} {j : Nat} : PE X (.Constant (.bool b) j pos) (tO e W (cO (.bl b))) := xo_con pe_bl fun _ => .bl b
theorem xo_non {j : Nat} : PE X (.Constant .none j pos) (tO e W (cO .non)) := xo_con pe_non fun _ => .non
theorem xo_str {s : Str} {j : Nat} : PE X (.Constant (.str s) j pos) (tO e W (cO (.str s))) := xo_con pe_str fun _ => .str s
theorem xd_of {f : Mo Sl} (h : PE X ex (tX e W f)) : PE X ex (tD e W (frzD f)) := h.imp fun σ H Q ⟨Fo, G, ρ, R, p⟩ => by
  refine tG.mono (Post.bind R p) fun v H1 ⟨G1, ρ1, s, g1, R1, r1, p1⟩ => ?_
  obtain ⟨r, hm, ap⟩ := r1
  cases s with
  | no => exact p1.elim
  | fz d =>
    cases r with
    | fz r => exact p1.here R1 r
    | own r => cases r
  | ow m xs =>
    cases (show m = false from hm)
    cases r with
    | @own b _ r =>
      cases r with
      | @ow _ vs _ k1 k2 k3 k4 =>
        have R2 := R1.know k1 k4 k3 fun i t c dx h1 h2 h3 => ⟨fun z => ap rfl b i t rfl h1 h2 (by rw [h3, z]), fun h4 z => by rw [z, k1] at h4; cases h4⟩
        exact p1 _ H1 _ (same_upd k3) (Keep.refl _) R2 (.lst upd_same (k2.mono (same_upd k3)))
  | oo m c fs =>
    cases (show m = false from hm)
    cases r with
    | @own b _ r =>
      cases r with
      | @oo _ _ dx ws _ k1 k2 k3 k4 k5 k6 k7 =>
        have nbd : dx ≠ b := fun z => by rw [z, k1] at k2; cases k2
        have R2 := R1.know k2 k7 k5 fun i t c dy h1 h2 h3 => ⟨fun z => by
          obtain ⟨o, j1, j2⟩ := R1.get h1
          rw [h3] at j1
          cases j1
          obtain ⟨b', e', j3⟩ := j2.owned h2
          cases e'
          obtain ⟨⟨o, j4, j5⟩, _⟩ := j3.at
          rw [z, k2] at j4
          cases j4
          exact j5, fun h4 z => by
          rw [z, k2] at h4
          cases h4
          exact ap rfl _ i t rfl h1 h2 h3⟩
        have k4' : (upd G1 dx (HO.own b)) b = none := by rw [upd_ne (Ne.symm nbd)]; exact k4
        have R3 := R2.know k1 k6 k4' fun i t c dy h1 h2 h3 => ⟨fun z => ap rfl b i t rfl h1 h2 (by rw [h3, z]), fun h4 z => by rw [z, k1] at h4; cases h4⟩
        have s2 : L2.Same G1 (upd (upd G1 dx (HO.own b)) b (.ins (e.ca c) dx ws)) := (same_upd k5).trans (same_upd k4')
        exact p1 _ H1 _ s2 (Keep.refl _) R3 (.obj upd_same (by rw [upd_ne nbd, upd_same]) (k3.mono s2))
theorem xo_of {f : Mo Sl} (h : PE X ex (tX e W f)) : PE X ex (tO e W (frzO f)) := (xd_of h).imp fun σ H Q ⟨Fo, G, ρ, R, p⟩ =>
  tG.mono (Post.bind R p) fun v H1 ⟨G1, ρ1, s, g1, R1, r1, p1⟩ => p1.here R1 (show ArR e Fo G1 σ H1 ρ1 v (.vl s) from r1)
theorem xx_of {f : Mo Ar} (h : PE X ex (tO e W f)) : PE X ex (tX e W (valO f)) := h.imp fun σ H Q ⟨Fo, G, ρ, R, p⟩ => by
  refine tG.mono (Post.bind R p) fun v H1 ⟨G1, ρ1, a, g1, R1, r1, p1⟩ => ?_
  cases a with
  | vl d => exact p1.here R1 ⟨.fz r1, rfl, fun z => nomatch z⟩
  | sl i =>
    have hs : σ[i]? = some (some v) := r1
    cases q : ρ1[i]? with
    | none => simp only [q] at p1; exact p1.elim
    | some s =>
      simp only [q] at p1
      cases s with
      | fz d =>
        obtain ⟨o, h1, h2⟩ := R1.get q
        rw [hs] at h1
        cases h1
        cases h2 with
        | fz r => exact p1.here R1 ⟨.fz r, rfl, fun z => nomatch z⟩
        | own r => cases r
      | no => exact p1.elim
      | ow m xs => exact p1.elim
      | oo m c fs => exact p1.elim
end

/-! ### operations by values -/
/-- what is asked of an operation on two things -/
def OpG (e : Ev) (r : R2) (g : D → D → Option Sl) : Prop := ∀ (G H : Hp) (x y : V) (d1 d2 : D) (s : Sl) (Q : VK), L2.Same G H → CoR e G H x d1 → CoR e G H y d2 → g d1 d2 = some s →
  (∀ G' H' v, Gr G H G' H' → New e H G' H' v s → Q v H') → r x y H Q
def UnG (e : Ev) (r : V → Hp → VK → Prop) (g : D → Option Sl) : Prop := ∀ (G H : Hp) (x : V) (d1 : D) (s : Sl) (Q : VK), L2.Same G H → CoR e G H x d1 → g d1 = some s →
  (∀ G' H' v, Gr G H G' H' → New e H G' H' v s → Q v H') → r x H Q
inductive CoRs (e : Ev) (G H : Hp) : List V → List D → Prop
  | nil : CoRs e G H [] []
  | cons {v : V} {d : D} {vs : List V} {ds : List D} : CoR e G H v d → CoRs e G H vs ds → CoRs e G H (v :: vs) (d :: ds)
def CaG (e : Ev) (r : List V → Hp → VK → Prop) (g : List D → Option Sl) : Prop := ∀ (G H : Hp) (xs : List V) (ds : List D) (s : Sl) (Q : VK), L2.Same G H → CoRs e G H xs ds → g ds = some s →
  (∀ G' H' v, Gr G H G' H' → New e H G' H' v s → Q v H') → r xs H Q
def retO {α : Type} (ρ : List Sl) : Option α → Re α
  | some a => .ok ρ a
  | none => .bad
def binX (g : D → D → Option Sl) (fa fb : Mo Ar) : Mo Sl := Mo.bind fa fun a => Mo.bind fb fun b ρ => match con ρ a, con ρ b with
  | some d1, some d2 => retO ρ (g d1 d2)
  | _, _ => .bad
def unX (g : D → Option Sl) (fa : Mo Ar) : Mo Sl := Mo.bind fa fun a ρ => match con ρ a with
  | some d1 => retO ρ (g d1)
  | _ => .bad
def conS (ρ : List Sl) : List Ar → Option (List D)
  | [] => some []
  | a :: as => match con ρ a, conS ρ as with
    | some d, some ds => some (d :: ds)
    | _, _ => none
def caX (g : List D → Option Sl) (fa : Mo (List Ar)) : Mo Sl := Mo.bind fa fun as ρ => match conS ρ as with
  | some ds => retO ρ (g ds)
  | none => .bad
section
variable {X : Cx} {e : Ev} {W : WX} {a b c : Expr} {pos : Pos} {fa fb fc : Mo Ar} {r : R2} {g : D → D → Option Sl}
theorem bin_core (G : OpG e r g) {σ : St} {H : Hp} {Q : VK} (h : tX e W (binX g fa fb) σ H Q) : tOp r (tO e W fa) (tO e W fb) σ H Q := by
  obtain ⟨Fo, G0, ρ, R, p⟩ := h
  refine tG.mono (Post.bind R p) fun x H1 ⟨G1, ρ1, a1, g1, R1, r1, p1⟩ => ?_
  refine tG.mono (Post.bind R1 p1) fun y H2 ⟨G2, ρ2, a2, g2, R2, r2, p2⟩ => ?_
  cases q1 : con ρ2 a1 with
  | none => simp only [q1] at p2; exact p2.elim
  | some d1 =>
    cases q2 : con ρ2 a2 with
    | none => simp only [q1, q2] at p2; exact p2.elim
    | some d2 =>
      simp only [q1, q2] at p2
      cases q3 : g d1 d2 with
      | none => simp only [q3, retO] at p2; exact p2.elim
      | some s =>
        simp only [q3, retO] at p2
        exact G G2 H2 x y d1 d2 s Q R2.gh ((r1.mono g2 : ArR e Fo G2 σ H2 ρ2 x a1).co R2 q1) (r2.co R2 q2) q3 fun G' H' v gr n => p2.new R2 gr n
theorem xx_bin {op : Operator} (ho : OpR X (binaryOp op) r) (hg : OpG e r g) (ha : PE X a (tO e W fa)) (hb : PE X b (tO e W fb)) : PE X (.BinOp a op b pos) (tX e W (binX g fa fb)) :=
  (pe_op ho ha hb).imp fun _ _ _ => bin_core hg
theorem xx_cmp {op : CmpOp} (ho : OpR X (compareOp op) r) (hg : OpG e r g) (ha : PE X a (tO e W fa)) (hb : PE X b (tO e W fb)) (hm : behindInMarks op b = false) : PE X (.Compare a [op] [b] pos) (tX e W (binX g fa fb)) :=
  (pe_cmpR ho ha hb hm).imp fun _ _ _ => bin_core hg
theorem un_core {r : V → Hp → VK → Prop} {g : D → Option Sl} (G : UnG e r g) {σ : St} {H : Hp} {Q : VK} (h : tX e W (unX g fa) σ H Q) : tO e W fa σ H fun x H1 => r x H1 Q := by
  obtain ⟨Fo, G0, ρ, R, p⟩ := h
  refine tG.mono (Post.bind R p) fun x H1 ⟨G1, ρ1, a1, g1, R1, r1, p1⟩ => ?_
  cases q1 : con ρ1 a1 with
  | none => simp only [q1] at p1; exact p1.elim
  | some d1 =>
    simp only [q1] at p1
    cases q3 : g d1 with
    | none => simp only [q3, retO] at p1; exact p1.elim
    | some s =>
      simp only [q3, retO] at p1
      exact G G1 H1 x d1 s Q R1.gh (r1.co R1 q1) q3 fun G' H' v gr n => p1.new R1 gr n
theorem xx_un {op : UnaryOp} {r : V → Hp → VK → Prop} {g : D → Option Sl} (ho : UnR X (unaryOp op) r) (hg : UnG e r g) (ha : PE X a (tO e W fa)) : PE X (.UnaryOp op a pos) (tX e W (unX g fa)) :=
  (pe_un ho ha).imp fun _ _ _ => un_core hg
theorem ArRs.co {Fo G H : Hp} {σ : St} {ρ : List Sl} (R : Rel e Fo G σ H ρ) : ∀ {vs : List V} {as : List Ar} {ds : List D}, ArRs e G σ vs as → conS ρ as = some ds → CoRs e G H vs ds
  | _, _, _, .nil, h => by cases h; exact .nil
  | _, _, _, @ArRs.cons _ _ _ v a vs as h1 h2, h => by
    unfold conS at h
    cases q1 : con ρ a with
    | none => simp only [q1] at h; cases h
    | some d =>
      cases q2 : conS ρ as with
      | none => simp only [q1, q2] at h; cases h
      | some ds' =>
        simp only [q1, q2] at h
        cases h
        exact .cons ((h1.mono (L2.Same.refl _) : ArR e Fo G σ H ρ v a).co R q1) (ArRs.co R h2 q2)
theorem ca_core {r : List V → Hp → VK → Prop} {g : List D → Option Sl} {fa : Mo (List Ar)} (G : CaG e r g) {σ : St} {H : Hp} {Q : VK} (h : tX e W (caX g fa) σ H Q) : tA e W fa σ H fun xs H1 => r xs H1 Q := by
  obtain ⟨Fo, G0, ρ, R, p⟩ := h
  refine tG.mono (Post.bind R p) fun x H1 ⟨G1, ρ1, a1, g1, R1, r1, p1⟩ => ?_
  cases q1 : conS ρ1 a1 with
  | none => simp only [q1] at p1; exact p1.elim
  | some d1 =>
    simp only [q1] at p1
    cases q3 : g d1 with
    | none => simp only [q3, retO] at p1; exact p1.elim
    | some s =>
      simp only [q3, retO] at p1
      exact G G1 H1 x d1 s Q R1.gh (ArRs.co R1 r1 q1) q3 fun G' H' v gr n => p1.new R1 gr n
/-! ### argument lists -/
def nilA : Mo (List Ar) := fun ρ => .ok ρ []
def consA (f : Mo Ar) (g : Mo (List Ar)) : Mo (List Ar) := Mo.bind f fun a => Mo.bind g fun as ρ => .ok ρ (a :: as)
theorem xa_nil : PA X [] (tA e W nilA) := pa_nil.imp fun σ H Q ⟨Fo, G, ρ, R, p⟩ => p.here R .nil
theorem xa_cons {x : Expr} {es : List Expr} {f : Mo Ar} {g : Mo (List Ar)} (h1 : PE X x (tO e W f)) (h2 : PA X es (tA e W g)) (hs : starEach (x :: es) X.env = (false, eval x X.env) :: starEach es X.env := by rfl) : PA X (x :: es) (tA e W (consA f g)) :=
  (pa_cons h1 h2 hs).imp fun σ H Q ⟨Fo, G0, ρ, R, p⟩ => by
    refine tG.mono (Post.bind R p) fun x H1 ⟨G1, ρ1, a1, g1, R1, r1, p1⟩ => ?_
    refine tG.mono (Post.bind R1 p1) fun y H2 ⟨G2, ρ2, a2, g2, R2, r2, p2⟩ => ?_
    exact p2.here R2 (.cons (r1.mono g2) r2)
end
end L2.WD
/-! The data layer, part 3: statements, loops, comprehensions. -/
namespace L2.WD
open PySem PySem.Spec PyProof.Rows

section
variable {e : Ev} {W : WX} {Fo G G' H H' : Hp} {σ σ' : St} {ρ ρ' : List Sl} {En : Ends}
def PostN (e : Ev) (Fo G : Hp) (σ : St) (ρ ρ' : List Sl) (Q : St → Hp → Prop) : Prop :=
  ∀ (G' : Hp) (σ' : St) (H' : Hp), L2.Same G G' → KeepS σ ρ σ' ρ' → Rel e Fo G' σ' H' ρ' → Q σ' H'
def PostS (e : Ev) (W : WX) (Fo G : Hp) (σ : St) (ρ : List Sl) (r : Out) (En : Ends) : Prop := match r with
  | .nx ρ' => PostN e Fo G σ ρ ρ' En.nx
  | .bk ρ' => PostN e Fo G σ ρ ρ' En.bk
  | .ct ρ' => PostN e Fo G σ ρ ρ' En.ct
  | .rt ρ' s => ∀ (G' : Hp) (σ' : St) (H' : Hp) (v : V), L2.Same G G' → KeepS σ ρ σ' ρ' → Rel e Fo G' σ' H' ρ' → Val e Fo G' σ' H' ρ' v s → En.rt v H'
  | .exc ρ' c fs => ∀ (G' : Hp) (σ' : St) (H' : Hp) (cls : Value) (od : Option Addr), L2.Same G G' → KeepS σ ρ σ' ρ' → Rel e Fo G' σ' H' ρ' → ExcR e G' c fs cls od → W cls od σ' H'
  | .bad => False
@[reducible] def So : Type := List Sl → Out
def tS (e : Ev) (W : WX) (g : So) : TS := fun En σ H => ∃ (Fo G : Hp) (ρ : List Sl), Rel e Fo G σ H ρ ∧ PostS e W Fo G σ ρ (g ρ) En
theorem PostN.from {ρ2 : List Sl} {Q : St → Hp → Prop} (h : PostN e Fo G σ ρ ρ2 Q) (g : L2.Same G G') (k : KeepS σ ρ σ' ρ') : PostN e Fo G' σ' ρ' ρ2 Q :=
  fun G2 σ2 H2 g2 k2 => h G2 σ2 H2 (g.trans g2) (k.trans k2)
theorem PostS.from {r : Out} (h : PostS e W Fo G σ ρ r En) (g : L2.Same G G') (k : KeepS σ ρ σ' ρ') : PostS e W Fo G' σ' ρ' r En := by
  cases r with
  | nx ρ2 => exact PostN.from h g k
  | bk ρ2 => exact PostN.from h g k
  | ct ρ2 => exact PostN.from h g k
  | rt ρ2 s => exact fun G2 σ2 H2 v g2 k2 => h G2 σ2 H2 v (g.trans g2) (k.trans k2)
  | exc ρ2 c fs => exact fun G2 σ2 H2 cls od g2 k2 => h G2 σ2 H2 cls od (g.trans g2) (k.trans k2)
  | bad => exact h
/-- another end for «next», «continue», «break» -/
theorem PostS.ends {r : Out} {En En' : Ends} (h : PostS e W Fo G σ ρ r En) (hn : ∀ ρ', r = .nx ρ' → PostN e Fo G σ ρ ρ' En'.nx) (hc : ∀ ρ', r = .ct ρ' → PostN e Fo G σ ρ ρ' En'.ct) (hb : ∀ ρ', r = .bk ρ' → PostN e Fo G σ ρ ρ' En'.bk) (hr : En'.rt = En.rt) : PostS e W Fo G σ ρ r En' := by
  cases r with
  | nx ρ2 => exact hn _ rfl
  | bk ρ2 => exact hb _ rfl
  | ct ρ2 => exact hc _ rfl
  | rt ρ2 s =>
    show ∀ (G' : Hp) (σ' : St) (H' : Hp) (v : V), L2.Same G G' → KeepS σ ρ σ' ρ2 → Rel e Fo G' σ' H' ρ2 → Val e Fo G' σ' H' ρ2 v s → En'.rt v H'
    rw [hr]
    exact h
  | exc ρ2 c fs => exact h
  | bad => exact h
def seqS (a b : So) : So := fun ρ => match a ρ with
  | .nx ρ' => b ρ'
  | o => o
/-- an expression ahead of what is done with it -/
def bindS {α : Type} (f : Mo α) (k : α → So) : So := fun ρ => match f ρ with
  | .ok ρ' a => k a ρ'
  | .exc ρ' c fs => .exc ρ' c fs
  | .bad => .bad
theorem PostS.bind {α β : Type} {Rl : RlT α β} {f : Mo α} {k : α → So} (R : Rel e Fo G σ H ρ) (h : PostS e W Fo G σ ρ (bindS f k ρ) En) :
    tG e W Rl f σ H fun v H1 => ∃ (G' : Hp) (ρ' : List Sl) (a : α), L2.Same G G' ∧ Rel e Fo G' σ H1 ρ' ∧ Rl e Fo G' σ H1 ρ' v a ∧ KeepS σ ρ σ ρ' ∧ PostS e W Fo G' σ ρ' (k a ρ') En := by
  refine ⟨Fo, G, ρ, R, ?_⟩
  unfold bindS at h
  cases q : f ρ with
  | ok ρ1 a =>
    rw [q] at h
    exact fun G' H' v g kp R' r => ⟨G', ρ1, a, g, R', r, kp.toS, h.from g kp.toS⟩
  | exc ρ1 c fs =>
    rw [q] at h
    exact fun G' H' cls od g kp R' r => h G' σ H' cls od g kp.toS R' r
  | bad =>
    rw [q] at h
    exact h

/-! ### a slot is stored -/
theorem SlRs.nil_get {i : Nat} (h : SlRs e Fo G H σ ρ) (n : ρ[i]? = none) : σ[i]? = none := by
  have := h.length
  rw [List.getElem?_eq_none_iff] at n ⊢
  omega
theorem Rel.put {v : V} {s : Sl} {i : Nat} (R : Rel e Fo G σ H ρ) (r : Val e Fo G σ H ρ v s) : Rel e Fo G (σ.set i (some v)) H (ρ.set i s) := by
  obtain ⟨r1, r2, r3⟩ := r
  refine ⟨R.gh, R.fh, R.fg, R.sl.set r1 i, fun j k b s1 t1 h1 h2 o1 o2 e1 e2 => ?_⟩
  by_cases hj : j = i
  · subst hj
    by_cases hk : k = j
    · exact hk.symm
    · rw [List.getElem?_set_ne (Ne.symm hk)] at h2 e2
      have hl : j < ρ.length := by
        by_cases z : j < ρ.length
        · exact z
        · rw [List.getElem?_eq_none (by simpa using z)] at h1
          cases h1
      rw [List.getElem?_set_self hl] at h1
      have hl2 : j < σ.length := by rw [R.len]; exact hl
      rw [List.getElem?_set_self hl2] at e1
      cases h1
      cases e1
      exact absurd e2 (r3 o1 b k t1 rfl h2 o2)
  · rw [List.getElem?_set_ne (Ne.symm hj)] at h1 e1
    by_cases hk : k = i
    · subst hk
      have hl : k < ρ.length := by
        by_cases z : k < ρ.length
        · exact z
        · rw [List.getElem?_eq_none (by simpa using z)] at h2
          cases h2
      rw [List.getElem?_set_self hl] at h2
      have hl2 : k < σ.length := by rw [R.len]; exact hl
      rw [List.getElem?_set_self hl2] at e2
      cases h2
      cases e2
      exact absurd e1 (r3 o2 b j s1 rfl h1 o1)
    · rw [List.getElem?_set_ne (Ne.symm hk)] at h2 e2
      exact R.ap j k b s1 t1 h1 h2 o1 o2 e1 e2
/-- the slot's own list is the caller's: it can't be stored to -/
def free (ρ : List Sl) (i : Nat) : Bool := match ρ[i]? with
  | some s => !s.mine
  | none => false
theorem free_keep {i : Nat} {s : Sl} {o : Option V} (h : free ρ i = true) : KeepS σ ρ (σ.set i o) (ρ.set i s) := fun j t ht hm => by
  by_cases hj : j = i
  · subst hj
    unfold free at h
    simp only [ht, hm] at h
    cases h
  · rw [List.getElem?_set_ne (Ne.symm hj), List.getElem?_set_ne (Ne.symm hj)]
    exact ⟨rfl, t, ht, hm⟩
def putS (i : Nat) (s : Sl) : So := fun ρ => if free ρ i = true then .nx (ρ.set i s) else .bad
def setS (i : Nat) (f : Mo Sl) : So := bindS f fun s => putS i s
def retS (f : Mo Sl) : So := bindS f fun s ρ => .rt ρ s
def exprS {α : Type} (f : Mo α) : So := bindS f fun _ ρ => .nx ρ
def ifS (t : Mo Bool) (a b : So) : So := bindS t fun c ρ => if c = true then a ρ else b ρ
def nxS : So := fun ρ => .nx ρ
def retN : So := fun ρ => .rt ρ (.fz .non)
theorem Val.fz {v : V} {d : D} (h : DR e G v d) : Val e Fo G σ H ρ v (.fz d) := ⟨.fz h, rfl, fun z => nomatch z⟩
theorem PostS.put {v : V} {s : Sl} {i : Nat} (R : Rel e Fo G σ H ρ) (r : Val e Fo G σ H ρ v s) (h : PostS e W Fo G σ ρ (putS i s ρ) En) : En.nx (σ.set i (some v)) H := by
  unfold putS at h
  by_cases c : free ρ i = true
  · rw [if_pos c] at h
    exact h G _ H (L2.Same.refl _) (free_keep c) (R.put r)
  · rw [if_neg c] at h
    exact h.elim
end

section
variable {X : Cx} {e : Ev} {W : WX} {ex : Expr} {st : Stmt} {rest : List Stmt} {pos pos' : Pos} {g g' : So}
theorem ss_asg {t : TE} {i : Nat} {f : Mo Sl} (h : PS X st (tAsg t (gName i))) (i' : ∀ σ H Q, tX e W f σ H Q → t σ H Q) : PS X st (tS e W (setS i f)) := h.imp fun En σ H ⟨Fo, G, ρ, R, p⟩ =>
  i' _ _ _ (tG.mono (PostS.bind R p) fun v H1 ⟨G1, ρ1, s, g1, R1, r1, _, p1⟩ => p1.put R1 r1)
theorem ss_set {i : Nat} {x : Str} {f : Mo Sl} (hN : X.N.Nodup) (hi : X.N[i]? = some x) (hx : Loc X.env.scope x) (he : PE X ex (tX e W f)) (hs : swapsWith ex (some (.Name x pos')) pos.line X.env = pure false := by rfl) (hf : X.fn x = true ∨ X.env.scope.names.lookup x = some .local := by first | exact .inl rfl | exact .inr rfl | assumption) :
    PS X (.Assign [.Name x pos'] ex pos) (tS e W (setS i f)) := ss_asg (ps_set hN hi hx he hs hf) fun _ _ _ h => h
theorem ss_ret {f : Mo Sl} (he : PE X ex (tX e W f)) : PS X (.Return (some ex) pos) (tS e W (retS f)) := (ps_ret he).imp fun En σ H ⟨Fo, G, ρ, R, p⟩ =>
  tG.mono (PostS.bind R p) fun v H1 ⟨G1, ρ1, s, g1, R1, r1, _, p1⟩ => p1 G1 σ H1 v (L2.Same.refl _) (KeepS.refl _ _) R1 r1
theorem ss_retN : PS X (.Return none pos) (tS e W retN) := ps_retN.imp fun En σ H ⟨Fo, G, ρ, R, p⟩ => p G σ H .non (L2.Same.refl _) (KeepS.refl _ _) R (.fz .non)
theorem ss_expr {α : Type} {Rl : RlT α V} {f : Mo α} (he : PE X ex (tG e W Rl f)) (hs : swapsWith ex none pos.line X.env = pure false := by rfl) : PS X (.Expr ex pos) (tS e W (exprS f)) := (ps_expr he hs).imp fun En σ H ⟨Fo, G, ρ, R, p⟩ =>
  tG.mono (PostS.bind R p) fun v H1 ⟨G1, ρ1, s, g1, R1, r1, _, p1⟩ => p1 G1 σ H1 (L2.Same.refl _) (KeepS.refl _ _) R1
theorem ss_doc {x : Str} {j : Nat} : PS X (.Expr (.Constant (.str x) j pos) pos') (tS e W nxS) := ps_doc.imp fun En σ H ⟨Fo, G, ρ, R, p⟩ => p G σ H (L2.Same.refl _) (KeepS.refl _ _) R
theorem ss_pass : PS X (.Pass pos) (tS e W nxS) := ps_pass.imp fun En σ H ⟨Fo, G, ρ, R, p⟩ => p G σ H (L2.Same.refl _) (KeepS.refl _ _) R
theorem ss_break : PS X (.Break pos) (tS e W .bk) := ps_break.imp fun En σ H ⟨Fo, G, ρ, R, p⟩ => p G σ H (L2.Same.refl _) (KeepS.refl _ _) R
theorem ss_continue : PS X (.Continue pos) (tS e W .ct) := ps_continue.imp fun En σ H ⟨Fo, G, ρ, R, p⟩ => p G σ H (L2.Same.refl _) (KeepS.refl _ _) R
theorem ss_nil : PSs X [] (tS e W nxS) := pss_nil.imp fun En σ H ⟨Fo, G, ρ, R, p⟩ => p G σ H (L2.Same.refl _) (KeepS.refl _ _) R
theorem seq_core {En : Ends} {σ : St} {H : Hp} (h : tS e W (seqS g g') En σ H) : tS e W g { En with nx := tS e W g' En } σ H := by
  obtain ⟨Fo, G, ρ, R, p⟩ := h
  refine ⟨Fo, G, ρ, R, ?_⟩
  unfold seqS at p
  cases q : g ρ with
  | nx ρ1 =>
    rw [q] at p
    exact fun G' σ' H' g1 k1 R1 => ⟨Fo, G', ρ1, R1, p.from g1 k1⟩
  | bk ρ1 => rw [q] at p; exact p
  | ct ρ1 => rw [q] at p; exact p
  | rt ρ1 s => rw [q] at p; exact p
  | exc ρ1 c fs => rw [q] at p; exact p
  | bad => rw [q] at p; exact p
theorem ss_cons (h1 : PS X st (tS e W g)) (h2 : PSs X rest (tS e W g')) : PSs X (st :: rest) (tS e W (seqS g g')) := (pss_cons h1 h2).imp fun En σ H h => seq_core h
theorem ss_one (h1 : PS X st (tS e W g)) : PSs X [st] (tS e W g) := pss_one h1
theorem ss_if {c : Expr} {a b : List Stmt} {t : Mo Bool} (hc : PT X c (tT e W t)) (ha : PSs X a (tS e W g)) (hb : PSs X b (tS e W g')) : PS X (.If c a b pos) (tS e W (ifS t g g')) := (ps_if hc ha hb).imp fun En σ H ⟨Fo, G, ρ, R, p⟩ =>
  tG.mono (PostS.bind R p) fun v H1 ⟨G1, ρ1, c, g1, R1, r1, _, p1⟩ => by
    cases (show v = c from r1)
    by_cases k : v = true
    · rw [if_pos k] at p1 ⊢
      exact ⟨Fo, G1, ρ1, R1, p1⟩
    · rw [if_neg k] at p1 ⊢
      exact ⟨Fo, G1, ρ1, R1, p1⟩
/-- a name whose own list goes (return x) -/
def mvX (i : Nat) : Mo Sl := fun ρ => match ρ[i]? with
  | some (.fz d) => .ok ρ (.fz d)
  | some (.ow false xs) => .ok (ρ.set i .no) (.ow false xs)
  | some (.oo false c fs) => .ok (ρ.set i .no) (.oo false c fs)
  | _ => .bad
theorem Rel.drop {Fo G H : Hp} {σ : St} {ρ : List Sl} {i : Nat} (R : Rel e Fo G σ H ρ) : Rel e Fo G σ H (ρ.set i .no) :=
  ⟨R.gh, R.fh, R.fg, R.sl.setR i fun _ _ => .no, fun j k b s t h1 h2 o1 o2 e1 e2 => by
    by_cases hj : j = i
    · subst hj
      by_cases z : j < ρ.length
      · rw [List.getElem?_set_self z] at h1
        cases h1
        cases o1
      · rw [List.getElem?_eq_none (by simpa using z)] at h1
        cases h1
    · by_cases hk : k = i
      · subst hk
        by_cases z : k < ρ.length
        · rw [List.getElem?_set_self z] at h2
          cases h2
          cases o2
        · rw [List.getElem?_eq_none (by simpa using z)] at h2
          cases h2
      · rw [List.getElem?_set_ne (Ne.symm hj)] at h1
        rw [List.getElem?_set_ne (Ne.symm hk)] at h2
        exact R.ap j k b s t h1 h2 o1 o2 e1 e2⟩
theorem keep_set {ρ : List Sl} {i : Nat} {s t : Sl} (h : ρ[i]? = some s) (m : s.mine = false) : Keep ρ (ρ.set i t) := fun j u hu hm => by
  by_cases hj : j = i
  · subst hj
    rw [h] at hu
    cases hu
    rw [m] at hm
    cases hm
  · rw [List.getElem?_set_ne (Ne.symm hj)]
    exact ⟨u, hu, hm⟩
theorem drop_val {Fo G H : Hp} {σ : St} {ρ : List Sl} {i : Nat} {v : V} {s : Sl} (R : Rel e Fo G σ H ρ) (h : ρ[i]? = some s) (hv : σ[i]? = some (some v)) (hs : SlR e Fo G H (some v) s) (m : s.mine = false) : Val e Fo G σ H (ρ.set i .no) v s := by
  refine ⟨hs, m, fun ho b j t ev ht hto he => ?_⟩
  subst ev
  by_cases hj : j = i
  · subst hj
    by_cases z : j < ρ.length
    · rw [List.getElem?_set_self z] at ht
      cases ht
      cases hto
    · rw [List.getElem?_eq_none (by simpa using z)] at ht
      cases ht
  · rw [List.getElem?_set_ne (Ne.symm hj)] at ht
    exact hj (R.ap j i b t s ht h hto ho he hv)
theorem xx_mv {i : Nat} {x : Str} (h : PE X (.Name x pos) (tVar i)) : PE X (.Name x pos) (tX e W (mvX i)) := h.imp fun σ H Q ⟨Fo, G, ρ, R, p⟩ => by
  unfold mvX at p
  cases q : ρ[i]? with
  | none => rw [q] at p; exact p.elim
  | some s =>
    rw [q] at p
    obtain ⟨o, h1, h2⟩ := R.get q
    cases s with
    | no => exact p.elim
    | fz d =>
      cases h2 with
      | fz r => exact ⟨_, h1, p.here R (.fz r)⟩
      | own r => cases r
    | ow m xs =>
      cases m with
      | true => exact p.elim
      | false =>
        cases h2 with
        | own r => exact ⟨_, h1, p _ _ _ (L2.Same.refl _) (keep_set q rfl) R.drop (drop_val R q h1 (.own r) rfl)⟩
    | oo m c fs =>
      cases m with
      | true => exact p.elim
      | false =>
        cases h2 with
        | own r => exact ⟨_, h1, p _ _ _ (L2.Same.refl _) (keep_set q rfl) R.drop (drop_val R q h1 (.own r) rfl)⟩
/-- a name whose own list stays as it is from here on -/
def frN (i : Nat) : Mo Ar := fun ρ => match ρ[i]? with
  | some (.fz d) => .ok ρ (.vl d)
  | some (.ow false xs) => .ok (ρ.set i (.fz (.lst xs))) (.vl (.lst xs))
  | some (.oo false c fs) => .ok (ρ.set i (.fz (.obj c fs))) (.vl (.obj c fs))
  | _ => .bad
def frX (i : Nat) : Mo Ar := fun ρ => (frzO (mvX i) ρ)
end

/-! ### targets -/
section
variable {X : Cx} {e : Ev} {W : WX} {pos : Pos}
/-- d is stored to a target; is: the slots that it stores to -/
def tgR (e : Ev) (is : List Nat) (t : D → So) : TG := fun v σ H Q => ∃ (Fo G : Hp) (ρ : List Sl) (d : D), Rel e Fo G σ H ρ ∧ DR e G v d ∧ ∃ ρ', t d ρ = .nx ρ' ∧
  ∀ (G' : Hp) (σ' : St) (H' : Hp), L2.Same G G' → KeepS σ ρ σ' ρ' → Rel e Fo G' σ' H' ρ' → σ'.length = σ.length → (∀ j, j ∉ is → σ'[j]? = σ[j]?) → Q σ' H'
def tgsR (e : Ev) (is : List Nat) (t : List D → So) : TGs := fun vs σ H Q => ∃ (Fo G : Hp) (ρ : List Sl) (ds : List D), Rel e Fo G σ H ρ ∧ DRs e G vs ds ∧ ∃ ρ', t ds ρ = .nx ρ' ∧
  ∀ (G' : Hp) (σ' : St) (H' : Hp), L2.Same G G' → KeepS σ ρ σ' ρ' → Rel e Fo G' σ' H' ρ' → σ'.length = σ.length → (∀ j, j ∉ is → σ'[j]? = σ[j]?) → Q σ' H'
theorem _root_.L2.PG.imp {tg : Expr} {t t' : TG} (h : PG X tg t) (i : ∀ v σ H Q, t' v σ H Q → t v σ H Q) : PG X tg t' := ⟨fun pins s σ H v u Q I r w => h.run pins s σ H v u Q I r (i v σ H Q w)⟩
theorem _root_.L2.PGs.imp {tg : List Expr} {t t' : TGs} (h : PGs X tg t) (i : ∀ v σ H Q, t' v σ H Q → t v σ H Q) : PGs X tg t' := ⟨fun pins s σ H v u Q I r w => h.run pins s σ H v u Q I r (i v σ H Q w)⟩
def gN (i : Nat) : D → So := fun d => putS i (.fz d)
theorem sg_name {i : Nat} {x : Str} (hN : X.N.Nodup) (hi : X.N[i]? = some x) (hx : Loc X.env.scope x) (hf : X.fn x = true ∨ X.env.scope.names.lookup x = some .local := by first | exact .inl rfl | exact .inr rfl | assumption) : PG X (.Name x pos) (tgR e [i] (gN i)) :=
  (pg_name hN hi hx hf).imp fun v σ H Q ⟨Fo, G, ρ, d, R, r, ρ', h, q⟩ => by
    unfold gN putS at h
    by_cases c : free ρ i = true
    · rw [if_pos c] at h
      cases h
      exact q G _ H (L2.Same.refl _) (free_keep c) (R.put (.fz r)) (by simp) fun j hj => List.getElem?_set_ne fun z => hj (by simp [z])
    · rw [if_neg c] at h
      cases h
def gNilD : List D → So := fun ds ρ => match ds with
  | [] => .nx ρ
  | _ => .bad
def gConsD (t : D → So) (u : List D → So) : List D → So := fun ds => match ds with
  | d :: ds => seqS (t d) (u ds)
  | [] => fun _ => .bad
theorem sg_nil : PGs X [] (tgsR e [] gNilD) := pgs_nil.imp fun v σ H Q ⟨Fo, G, ρ, ds, R, r, ρ', h, q⟩ => by
  cases ds with
  | nil =>
    cases r
    cases h
    exact ⟨rfl, q G σ H (L2.Same.refl _) (KeepS.refl _ _) R rfl fun _ _ => rfl⟩
  | cons d ds => cases h
theorem sg_cons {tg : Expr} {tgs : List Expr} {is js : List Nat} {t : D → So} {u : List D → So} (h1 : PG X tg (tgR e is t)) (h2 : PGs X tgs (tgsR e js u))
    (hs : (assignEach (tg :: tgs) X.env).map (·.2) = assign tg X.env :: (assignEach tgs X.env).map (·.2) := by rfl) : PGs X (tg :: tgs) (tgsR e (is ++ js) (gConsD t u)) :=
  (pgs_cons h1 h2 hs).imp fun vs σ H Q ⟨Fo, G, ρ, ds, R, r, ρ', h, q⟩ => by
    cases r with
    | nil => cases h
    | @cons v0 vs0 d0 ds0 r rr =>
      refine ⟨_, _, rfl, ?_⟩
      have h' : seqS (t d0) (u ds0) ρ = .nx ρ' := h
      unfold seqS at h'
      cases q1 : t d0 ρ with
      | nx ρ1 =>
        rw [q1] at h'
        exact ⟨Fo, G, ρ, d0, R, r, ρ1, q1, fun G1 σ1 H1 g1 k1 R1 l1 n1 => ⟨Fo, G1, ρ1, ds0, R1, rr.mono g1, ρ', h', fun G2 σ2 H2 g2 k2 R2 l2 n2 => q G2 σ2 H2 (g1.trans g2) (k1.trans k2) R2 (l2.trans l1) fun j hj => by
          rw [List.mem_append] at hj
          rw [n2 j fun z => hj (.inr z), n1 j fun z => hj (.inl z)]⟩⟩
      | bk ρ1 => rw [q1] at h'; cases h'
      | ct ρ1 => rw [q1] at h'; cases h'
      | rt ρ1 s => rw [q1] at h'; cases h'
      | exc ρ1 c fs => rw [q1] at h'; cases h'
      | bad => rw [q1] at h'; cases h'
def gTupD (n : Nat) (u : List D → So) : D → So := fun d => match d with
  | .tup ds => if ds.length = n then u ds else fun _ => .bad
  | _ => fun _ => .bad
theorem sg_tup {es : List Expr} {k : Nat} {n : Nat} {is : List Nat} {u : List D → So} (hK : X.K = e.K) (hc : X.calm = true) (h : PGs X es (tgsR e is u))
    (hn : (assignEach es X.env).length = n := by rfl) (hst : (assignEach es X.env).findIdx? (·.1) = none := by rfl) : PG X (.Tuple es k pos) (tgR e is (gTupD n u)) :=
  (pg_tup hc h hn hst).imp fun v σ H Q ⟨Fo, G, ρ, d, R, r, ρ', h, q⟩ => by
    cases r with
    | @tup a xs ds h1 h2 =>
      unfold gTupD at h
      by_cases c : ds.length = n
      · simp only [if_pos c] at h
        refine ⟨a, xs, rfl, ?_, h2.length.trans c, Fo, G, ρ, ds, R, h2, ρ', h, q⟩
        rw [hK]
        exact Same.seqT R.gh h1
      · simp only [if_neg c] at h
        cases h
    | _ => cases h
/-- a, b = e; for what is stored as a whole -/
def asgS (f : Mo D) (t : D → So) : So := bindS f fun d ρ => match t d ρ with
  | .nx ρ' => .nx ρ'
  | _ => .bad
theorem ss_asgT {tg ex : Expr} {is : List Nat} {t : D → So} {f : Mo Sl} (he : PE X ex (tX e W f)) (hg : PG X tg (tgR e is t)) (hs : swapsWithSole [tg] ex pos.line X.env = pure false := by rfl) (hw : swappedStores [tg] ex X.env = pure none := by rfl)
    (h1 : (assignEach [tg] X.env).map (·.2) = [assign tg X.env] := by rfl) : PS X (.Assign [tg] ex pos) (tS e W (asgS (frzD f) t)) := (ps_asg (xd_of he) hg hs hw h1).imp fun En σ H ⟨Fo, G, ρ, R, p⟩ =>
  tG.mono (PostS.bind R p) fun v H1 ⟨G1, ρ1, d, g1, R1, r1, _, p1⟩ => by
    have p2 : PostS e W Fo G1 σ ρ1 (match t d ρ1 with | .nx ρ' => .nx ρ' | _ => .bad) En := p1
    cases q : t d ρ1 with
    | nx ρ2 =>
      rw [q] at p2
      exact ⟨Fo, G1, ρ1, d, R1, r1, ρ2, q, fun G2 σ2 H2 g2 k2 R2 _ _ => p2 G2 σ2 H2 g2 k2 R2⟩
    | bk ρ1 => rw [q] at p2; exact p2.elim
    | ct ρ1 => rw [q] at p2; exact p2.elim
    | rt ρ1 s => rw [q] at p2; exact p2.elim
    | exc ρ1 c fs => rw [q] at p2; exact p2.elim
    | bad => rw [q] at p2; exact p2.elim
end
end L2.WD
/-! The data layer, part 4: what is walked, loops, comprehensions, tests. -/
namespace L2.WD
open PySem PySem.Spec PyProof.Rows

/-- a walk gives these, one behind the other -/
def Wk : RlT (List D) It := fun e _ G _ _ _ J ds => ∃ Y : Nat → Hp → V → Hp → Prop, Walk J ds.length (fun H => ∃ G1, L2.Same G G1 ∧ L2.Same G1 H) Y ∧
  ∀ (i : Nat) (H : Hp) (x : V) (H' : Hp) (G1 : Hp), L2.Same G G1 → L2.Same G1 H → i < ds.length → Y i H x H' → ∃ (G2 : Hp) (d : D), ds[i]? = some d ∧ Gr G1 H G2 H' ∧ DR e G2 x d
abbrev tI (e : Ev) (W : WX) (f : Mo (List D)) : TI := tG e W Wk f
theorem _root_.L2.PI.imp {X : Cx} {tg iter : Expr} {t t' : TI} (h : PI X tg iter t) (i : ∀ σ H R, t' σ H R → t σ H R) : PI X tg iter t' := ⟨fun pins s σ H R I w => h.run pins s σ H R I (i σ H R w)⟩
/-- a list, a tuple, a text: whichever it is -/
def iAny (K : PySem.W.Frag) (tl : TE) : TI := fun σ H R => tl σ H fun x H1 => (∃ a, x = .ref a ∧ (∃ xs, SqL K H1 a xs) ∧ R (Itl K a) H1) ∨ (∃ a, x = .ref a ∧ (∃ xs, SqT K H1 a xs) ∧ R (Itt K a) H1) ∨ ∃ z, x = .str z ∧ R (Its z) H1
section
variable {X : Cx} {tg : Expr}
theorem pi_any {l : Expr} {tl : TE} (hl : PE X l tl) : PI X tg l (iAny X.K tl) := by
  refine ⟨fun pins s σ H R I h => ?_⟩
  refine thn (hl.run pins s σ H _ I h) fun v s1 ⟨x, H1, I1, r1, q1⟩ => ?_
  rcases q1 with ⟨a, e, ⟨xs, hq⟩, q⟩ | ⟨a, e, ⟨xs, hq⟩, q⟩ | ⟨z, e, q⟩
  · subst e
    cases r1
    obtain ⟨its, rv, p, hz⟩ := I1.list hq
    refine wpAny_pyIter_list p.isList ?_
    refine ⟨s1.heap.objs.size, [s1.heap.objs.size], _, _, H1, rfl, I1.kept (t' := s1.toks) fun b o e => Heap.get?_push_of_some _ e, turn_list a _, ⟨_, Heap.get?_push_size _ rfl, rfl, rfl⟩, fun b hb => ?_, q⟩
    have e : b = s1.heap.objs.size := by simpa using hb
    subst e
    exact I1.fpOk (Nat.le_refl _) (I1.hok.fresh (Nat.le_refl _))
  · subst e
    cases r1
    obtain ⟨its, rv, p, hz⟩ := I1.tuple hq
    refine wpAny_pyIter_tuple (show s1.heap.IsTuple a its.toArray from p) ?_
    refine ⟨s1.heap.objs.size, [s1.heap.objs.size], _, _, H1, rfl, I1.kept (t' := s1.toks) fun b o e => Heap.get?_push_of_some _ e, turn_tuple a _, ⟨_, Heap.get?_push_size _ rfl, rfl, rfl⟩, fun b hb => ?_, q⟩
    have e : b = s1.heap.objs.size := by simpa using hb
    subst e
    exact I1.fpOk (Nat.le_refl _) (I1.hok.fresh (Nat.le_refl _))
  · subst e
    obtain ⟨t, rfl⟩ := r1
    cases ha : z.cps.all (· < 128)
    · exact wpAny_pyIter_wide ha (pi_one (tk := s1.toks) I1 _ (turn_str _ z t "str_iterator" (.inr rfl)) ⟨_, Heap.get?_push_size _ rfl, rfl, rfl⟩ q)
    · exact wpAny_pyIter_ascii ha (pi_one (tk := s1.toks) I1 _ (turn_str _ z t "str_ascii_iterator" (.inl rfl)) ⟨_, Heap.get?_push_size _ rfl, rfl, rfl⟩ q)
end
/-- the items of a thing that is walked -/
def itemsD : D → Option (List D)
  | .lst xs => some xs
  | .tup xs => some xs
  | .scr ns => some (ns.map D.int)
  | .str s => some (s.cps.toList.map fun c => .str ⟨#[c]⟩)
  | _ => none
def itX (f : Mo D) : Mo (List D) := Mo.bind f fun d ρ => retO ρ (itemsD d)
section
variable {X : Cx} {e : Ev} {W : WX} {Fo G H : Hp} {σ : St} {ρ : List Sl}
theorem wk_list {a : Addr} {ws : List V} {xs : List D} (h : SqL e.K G a ws) (r : DRs e G ws xs) : Wk e Fo G σ H ρ (Itl e.K a) xs := by
  refine ⟨YAt ws, ?_, fun i H x H' G1 g h1 hi y => ?_⟩
  · rw [← r.length]
    exact (walk_list (xs := ws)).mono (fun H ⟨G1, a, b⟩ => Same.seqL (a.trans b) h) fun i H x H' _ _ y => y
  · obtain ⟨rfl, y2⟩ := y
    obtain ⟨v, h2, h3⟩ := r.get (List.getElem?_eq_getElem hi)
    rw [h2] at y2
    cases y2
    exact ⟨G1, _, List.getElem?_eq_getElem hi, Gr.refl h1, h3.mono g⟩
theorem wk_tup {a : Addr} {ws : List V} {xs : List D} (h : SqT e.K G a ws) (r : DRs e G ws xs) : Wk e Fo G σ H ρ (Itt e.K a) xs := by
  refine ⟨YAt ws, ?_, fun i H x H' G1 g h1 hi y => ?_⟩
  · rw [← r.length]
    exact (walk_tup (xs := ws)).mono (fun H ⟨G1, a, b⟩ => Same.seqT (a.trans b) h) fun i H x H' _ _ y => y
  · obtain ⟨rfl, y2⟩ := y
    obtain ⟨v, h2, h3⟩ := r.get (List.getElem?_eq_getElem hi)
    rw [h2] at y2
    cases y2
    exact ⟨G1, _, List.getElem?_eq_getElem hi, Gr.refl h1, h3.mono g⟩
theorem wk_str {z : Str} : Wk e Fo G σ H ρ (Its z) (z.cps.toList.map fun c => .str ⟨#[c]⟩) := by
  refine ⟨fun i H v H' => H' = H ∧ ∃ c, z.cps[i]? = some c ∧ v = .str ⟨#[c]⟩, ?_, fun i H x H' G1 g h1 hi y => ?_⟩
  · rw [List.length_map, Array.length_toList]
    exact walk_str.mono (fun _ _ => trivial) fun i H x H' _ _ y => y
  · obtain ⟨rfl, c, y2, rfl⟩ := y
    refine ⟨G1, .str ⟨#[c]⟩, ?_, Gr.refl h1, .str _⟩
    rw [List.getElem?_map, Array.getElem?_toList, y2]
    rfl
theorem xi_any {tg l : Expr} {f : Mo D} (hK : X.K = e.K) (hl : PE X l (tD e W f)) : PI X tg l (tI e W (itX f)) := (pi_any hl).imp fun σ H Q ⟨Fo, G, ρ, R, p⟩ => by
  refine tG.mono (Post.bind R p) fun v H1 ⟨G1, ρ1, d, g1, R1, r1, p1⟩ => ?_
  have r2 : DR e G1 v d := r1
  rw [hK]
  cases r2 with
  | lst h r => exact .inl ⟨_, rfl, ⟨_, SqL.of (R1.gh _ _ h)⟩, p1.here R1 (wk_list (SqL.of h) r)⟩
  | scr h => exact .inl ⟨_, rfl, ⟨_, Same.seqL R1.gh h⟩, p1.here R1 (wk_list h (.of_ints _))⟩
  | tup h r => exact .inr (.inl ⟨_, rfl, ⟨_, Same.seqT R1.gh h⟩, p1.here R1 (wk_tup h r)⟩)
  | str s => exact .inr (.inr ⟨_, rfl, p1.here R1 wk_str⟩)
  | _ => exact p1.elim
/-- the things of a name: its own list stays as it is from here on -/
def frD (i : Nat) : Mo D := fun ρ => match ρ[i]? with
  | some (.fz d) => .ok ρ d
  | some (.ow false xs) => .ok (ρ.set i (.fz (.lst xs))) (.lst xs)
  | _ => .bad
theorem xd_nm {i : Nat} {x : Str} {pos : Pos} (h : PE X (.Name x pos) (tVar i)) : PE X (.Name x pos) (tD e W (frD i)) := h.imp fun σ H Q ⟨Fo, G, ρ, R, p⟩ => by
  unfold frD at p
  cases q : ρ[i]? with
  | none => rw [q] at p; exact p.elim
  | some s =>
    rw [q] at p
    obtain ⟨o, h1, h2⟩ := R.get q
    cases s with
    | no => exact p.elim
    | fz d =>
      cases h2 with
      | fz r => exact ⟨_, h1, p.here R r⟩
      | own r => cases r
    | ow m xs =>
      cases m with
      | true => exact p.elim
      | false =>
        cases h2 with
        | @own b _ r =>
          refine ⟨_, h1, ?_⟩
          cases r with
          | @ow _ vs _ k1 k2 k3 k4 =>
            have R1 : Rel e Fo G σ H (ρ.set i .no) := R.drop
            have dv := drop_val R q h1 (.own (.ow k1 k2 k3 k4)) rfl
            have R2 := R1.know k1 k4 k3 fun j t c dx h1 h2 h3 => ⟨fun z => dv.2.2 rfl b j t rfl h1 h2 (by rw [h3, z]), fun h4 z => by rw [z, k1] at h4; cases h4⟩
            have dr : DR e (upd G b (.lst vs)) (.ref b) (.lst xs) := .lst upd_same (k2.mono (same_upd k3))
            refine p _ H _ (same_upd k3) (keep_set q rfl) ⟨R2.gh, R2.fh, R2.fg, ?_, ?_⟩ dr
            · have := R2.sl.setR (s := .fz (.lst xs)) i fun o ho => by
                rw [h1] at ho
                cases ho
                exact .fz dr
              simpa using this
            · intro j k c s t j1 j2 j3 j4 j5 j6
              by_cases hj : j = i
              · subst hj
                by_cases z : j < ρ.length
                · rw [List.getElem?_set_self z] at j1
                  cases j1
                  cases j3
                · rw [List.getElem?_eq_none (by simpa using z)] at j1
                  cases j1
              · by_cases hk : k = i
                · subst hk
                  by_cases z : k < ρ.length
                  · rw [List.getElem?_set_self z] at j2
                    cases j2
                    cases j4
                  · rw [List.getElem?_eq_none (by simpa using z)] at j2
                    cases j2
                · rw [List.getElem?_set_ne (Ne.symm hj)] at j1
                  rw [List.getElem?_set_ne (Ne.symm hk)] at j2
                  exact R.ap j k c s t j1 j2 j3 j4 j5 j6
    | oo m c fs => exact p.elim

/-! ### for -/
def loopS (t : D → So) (body : So) : List D → So
  | [] => fun ρ => .nx ρ
  | d :: ds => fun ρ => match t d ρ with
    | .nx ρ1 => (match body ρ1 with
      | .nx ρ2 => loopS t body ds ρ2
      | .ct ρ2 => loopS t body ds ρ2
      | .bk ρ2 => .nx ρ2
      | o => o)
    | _ => .bad
def forS (f : Mo (List D)) (t : D → So) (body : So) : So := bindS f (loopS t body)
theorem ss_for {tg iter : Expr} {body : List Stmt} {f : Mo (List D)} {is : List Nat} {t : D → So} {b : So} {pos : Pos} (C : EC X e W) (cm : X.calm = true) (hi : PI X tg iter (tI e W f)) (hg : PG X tg (tgR e is t)) (hb : PSs X body (tS e W b))
    (hs : ∀ x, foldedSetIterable iter X.env x = pure x := by intro _; rfl) : PS X (.For tg iter body [] pos) (tS e W (forS f t b)) := (ps_for C.hp cm hi hg hb hs).imp fun En σ H ⟨Fo, G, ρ, R, p⟩ => by
  refine tG.mono (PostS.bind R p) fun J H1 ⟨G1, ρ1, ds, g1, R1, ⟨Y, w, hy⟩, k1, p1⟩ => ?_
  refine for_it w (fun i σ2 H2 => ∃ (G2 : Hp) (ρ2 : List Sl), L2.Same G1 G2 ∧ Rel e Fo G2 σ2 H2 ρ2 ∧ PostS e W Fo G2 σ2 ρ2 (loopS t b (ds.drop i) ρ2) En) ⟨G1, ρ1, L2.Same.refl _, R1, p1⟩ (fun i σ2 H2 _ ⟨G2, ρ2, g2, R2, _⟩ => ⟨G2, g2, R2.gh⟩) ?_ ?_
  · rintro i x σ2 H2 H3 hi ⟨G2, ρ2, g2, R2, p2⟩ y
    obtain ⟨G3, d, hd, gr, dr⟩ := hy i H2 x H3 G2 g2 R2.gh hi y
    have R3 := R2.gr gr
    rw [List.drop_eq_getElem_cons hi] at p2
    have hd2 : ds[i] = d := by
      rw [List.getElem?_eq_getElem hi] at hd
      exact Option.some.inj hd
    rw [hd2] at p2
    have p3 : PostS e W Fo G2 σ2 ρ2 (match t d ρ2 with
      | .nx ρ1 => (match b ρ1 with
        | .nx ρ2 => loopS t b (ds.drop (i + 1)) ρ2
        | .ct ρ2 => loopS t b (ds.drop (i + 1)) ρ2
        | .bk ρ2 => .nx ρ2
        | o => o)
      | _ => .bad) En := p2
    cases q : t d ρ2 with
    | nx ρ3 =>
      rw [q] at p3
      refine ⟨Fo, G3, ρ2, d, R3, dr, ρ3, q, fun G4 σ4 H4 g4 k4 R4 _ _ => ⟨Fo, G4, ρ3, R4, ?_⟩⟩
      have p4 := p3.from (gr.g.trans g4) k4
      cases q5 : b ρ3 with
      | nx ρ5 =>
        simp only [q5] at p4
        exact fun G5 σ5 H5 g5 k5 R5 => ⟨G5, ρ5, ((g2.trans gr.g).trans g4).trans g5, R5, p4.from g5 k5⟩
      | ct ρ5 =>
        simp only [q5] at p4
        exact fun G5 σ5 H5 g5 k5 R5 => ⟨G5, ρ5, ((g2.trans gr.g).trans g4).trans g5, R5, p4.from g5 k5⟩
      | bk ρ5 =>
        simp only [q5] at p4
        exact p4
      | rt ρ5 s =>
        simp only [q5] at p4
        exact p4
      | exc ρ5 c fs =>
        simp only [q5] at p4
        exact p4
      | bad =>
        simp only [q5] at p4
        exact p4
    | bk ρ3 => rw [q] at p3; exact p3.elim
    | ct ρ3 => rw [q] at p3; exact p3.elim
    | rt ρ3 s => rw [q] at p3; exact p3.elim
    | exc ρ3 c fs => rw [q] at p3; exact p3.elim
    | bad => rw [q] at p3; exact p3.elim
  · rintro σ2 H2 ⟨G2, ρ2, g2, R2, p2⟩
    rw [List.drop_length] at p2
    exact p2 G2 σ2 H2 (L2.Same.refl _) (KeepS.refl _ _) R2

/-! ### while -/
def whileL (t : Mo Bool) (body : So) : Nat → So
  | 0 => fun _ => .bad
  | n + 1 => fun ρ => match t ρ with
    | .ok ρ1 true => (match body ρ1 with
      | .nx ρ2 => whileL t body n ρ2
      | .ct ρ2 => whileL t body n ρ2
      | .bk ρ2 => .nx ρ2
      | o => o)
    | .ok ρ1 false => .nx ρ1
    | .exc ρ1 c fs => .exc ρ1 c fs
    | .bad => .bad
def whileS (m : List Sl → Nat) (t : Mo Bool) (body : So) : So := fun ρ => whileL t body (m ρ) ρ
theorem ss_while {c : Expr} {body : List Stmt} {m : List Sl → Nat} {t : Mo Bool} {b : So} {pos : Pos} (C : EC X e W) (hc : PT X c (tT e W t)) (hb : PSs X body (tS e W b)) : PS X (.While c body [] pos) (tS e W (whileS m t b)) := (ps_while C.hp hc hb).imp fun En σ H ⟨Fo, G, ρ, R, p⟩ => by
  refine ⟨fun n σ2 H2 => ∃ (G2 : Hp) (ρ2 : List Sl), Rel e Fo G2 σ2 H2 ρ2 ∧ PostS e W Fo G2 σ2 ρ2 (whileL t b n ρ2) En, ⟨m ρ, G, ρ, R, p⟩, ?_⟩
  rintro n σ2 H2 ⟨G2, ρ2, R2, p2⟩
  refine ⟨Fo, G2, ρ2, R2, ?_⟩
  cases n with
  | zero => exact p2.elim
  | succ n =>
    unfold whileL at p2
    cases q : t ρ2 with
    | ok ρ3 k =>
      rw [q] at p2
      intro G3 H3 v g3 k3 R3 hv
      cases (show v = k from hv)
      cases k with
      | true =>
        refine iteT ⟨fun σ4 H4 => ∃ (G4 : Hp) (ρ4 : List Sl), Rel e Fo G4 σ4 H4 ρ4 ∧ PostS e W Fo G4 σ4 ρ4 (whileL t b n ρ4) En, fun σ' H' h => ⟨n, Nat.lt_succ_self _, h⟩, Fo, G3, ρ3, R3, ?_⟩
        have p4 := p2.from g3 k3.toS
        cases q5 : b ρ3 with
        | nx ρ5 =>
          simp only [q5] at p4
          exact fun G5 σ5 H5 g5 k5 R5 => ⟨G5, ρ5, R5, p4.from g5 k5⟩
        | ct ρ5 =>
          simp only [q5] at p4
          exact fun G5 σ5 H5 g5 k5 R5 => ⟨G5, ρ5, R5, p4.from g5 k5⟩
        | bk ρ5 =>
          simp only [q5] at p4
          exact p4
        | rt ρ5 s =>
          simp only [q5] at p4
          exact p4
        | exc ρ5 c fs =>
          simp only [q5] at p4
          exact p4
        | bad =>
          simp only [q5] at p4
          exact p4
      | false => exact iteF (p2 G3 σ2 H3 g3 k3.toS R3)
    | exc ρ3 c fs =>
      rw [q] at p2
      exact fun G' H' cls od g k R' x => p2 G' σ2 H' cls od g k.toS R' x
    | bad =>
      rw [q] at p2
      exact p2.elim
end
end L2.WD
/-! The data layer, part 5: comprehensions. -/
namespace L2.WD
open PySem PySem.Spec PyProof.Rows

abbrev WF : WX := fun _ _ _ _ => False
section
variable {e : Ev} {Fo G G' H H' : Hp} {σ σ' : St} {ρ ρ' : List Sl} {p : Addr} {o u : HO}
theorem SlRs.of_get : ∀ {σ : St} {ρ : List Sl}, σ.length = ρ.length → (∀ (i : Nat) (o : Option V) (s : Sl), σ[i]? = some o → ρ[i]? = some s → SlR e Fo G H o s) → SlRs e Fo G H σ ρ
  | [], [], _, _ => .nil
  | [], _ :: _, h, _ => by simp at h
  | _ :: _, [], h, _ => by simp at h
  | o :: σ, s :: ρ, h, k => .cons (k 0 o s rfl rfl) (SlRs.of_get (by simpa using h) fun i o s h1 h2 => k (i + 1) o s (by simpa using h1) (by simpa using h2))
/-- a new list that is being made: no slot has it -/
theorem Rel.frame (R : Rel e Fo G σ H ρ) (n : H p = none) : Rel e (upd Fo p o) G σ (upd H p o) ρ := by
  have fn := R.fnone n
  have gn := R.gnone n
  have hs := same_upd (o := o) n
  refine ⟨R.gh.trans hs, fun b q z => ?_, fun b q z => ?_, R.sl.imp fun i o' s _ _ r => ?_, R.ap⟩
  · by_cases hb : b = p
    · subst hb
      rw [upd_same] at z ⊢
      exact z
    · rw [upd_ne hb] at z ⊢
      exact R.fh _ _ z
  · by_cases hb : b = p
    · subst hb
      exact gn
    · rw [upd_ne hb] at z
      exact R.fg b q z
  · cases r with
    | no => exact .no
    | fz r => exact .fz r
    | own q =>
      cases q with
      | ow k1 k2 k3 k4 => exact .own (.ow (hs _ _ k1) k2 k3 (by rw [upd_ne (ne_of_none k1 n)]; exact k4))
      | oo k1 k2 k3 k4 k5 k6 k7 => exact .own (.oo (hs _ _ k1) (hs _ _ k2) k3 k4 k5 (by rw [upd_ne (ne_of_none k1 n)]; exact k6) (by rw [upd_ne (ne_of_none k2 n)]; exact k7))
theorem Rel.reframe (R : Rel e (upd Fo p o) G σ H ρ) : Rel e (upd Fo p u) G σ (upd H p u) ρ := by
  have hp : H p = some o := R.fh _ _ upd_same
  have gn : G p = none := R.fg p o upd_same
  have ne : ∀ {b : Addr}, (upd Fo p o) b = none → b ≠ p := fun {b} h z => by rw [z, upd_same] at h; cases h
  have nu : ∀ {b : Addr}, (upd Fo p o) b = none → (upd Fo p u) b = none := fun {b} h => by
    have hb := ne h
    rw [upd_ne hb] at h ⊢
    exact h
  refine ⟨fun b q z => ?_, fun b q z => ?_, fun b q z => ?_, R.sl.imp fun i o' s _ _ r => ?_, R.ap⟩
  · have hb : b ≠ p := fun y => by rw [y, gn] at z; cases z
    rw [upd_ne hb]
    exact R.gh _ _ z
  · by_cases hb : b = p
    · subst hb
      rw [upd_same] at z ⊢
      exact z
    · rw [upd_ne hb] at z ⊢
      exact R.fh _ _ (by rw [upd_ne hb]; exact z)
  · by_cases hb : b = p
    · subst hb
      exact gn
    · rw [upd_ne hb] at z
      exact R.fg b q (by rw [upd_ne hb]; exact z)
  · cases r with
    | no => exact .no
    | fz r => exact .fz r
    | own q =>
      cases q with
      | ow k1 k2 k3 k4 => exact .own (.ow (by rw [upd_ne (ne k4)]; exact k1) k2 k3 (nu k4))
      | oo k1 k2 k3 k4 k5 k6 k7 => exact .own (.oo (by rw [upd_ne (ne k6)]; exact k1) (by rw [upd_ne (ne k7)]; exact k2) k3 k4 k5 (nu k6) (nu k7))
theorem Rel.unframe (R : Rel e (upd Fo p o) G σ H ρ) (n : Fo p = none) : Rel e Fo G σ H ρ := by
  have ne : ∀ {b : Addr}, (upd Fo p o) b = none → b ≠ p := fun {b} h z => by rw [z, upd_same] at h; cases h
  have s : L2.Same Fo (upd Fo p o) := same_upd n
  refine ⟨R.gh, fun b q z => R.fh _ _ (s _ _ z), fun b q z => R.fg b q (s _ _ z), R.sl.imp fun i o' s _ _ r => ?_, R.ap⟩
  cases r with
  | no => exact .no
  | fz r => exact .fz r
  | own q =>
    cases q with
    | ow k1 k2 k3 k4 => exact .own (.ow k1 k2 k3 (s.free k4))
    | oo k1 k2 k3 k4 k5 k6 k7 => exact .own (.oo k1 k2 k3 k4 k5 (s.free k6) (s.free k7))

/-! ### a block's own names -/
def wipeD (ρ : List Sl) : List Nat → List Sl
  | [] => ρ
  | v :: vs => (wipeD ρ vs).set v .no
def mixD (ρ0 ρ : List Sl) : List Nat → List Sl
  | [] => ρ
  | v :: vs => (mixD ρ0 ρ vs).set v (ρ0.getD v .no)
theorem wipe_get (σ : St) (j : Nat) : ∀ vs : List Nat, (wipe σ vs)[j]? = if j ∈ vs then (if j < σ.length then some none else none) else σ[j]?
  | [] => by simp [wipe]
  | v :: vs => by
    unfold wipe
    by_cases h : j = v
    · subst h
      rw [if_pos (List.mem_cons_self ..)]
      by_cases k : j < σ.length
      · rw [if_pos k, List.getElem?_set_self (by rw [wipe_length]; exact k)]
      · rw [if_neg k, List.getElem?_eq_none (by simp [wipe_length]; omega)]
    · rw [List.getElem?_set_ne (Ne.symm h), wipe_get σ j vs]
      by_cases k : j ∈ vs
      · rw [if_pos k, if_pos (List.mem_cons_of_mem _ k)]
      · rw [if_neg k, if_neg fun z => (List.mem_cons.mp z).elim h k]
theorem wipeD_length (ρ : List Sl) : ∀ vs : List Nat, (wipeD ρ vs).length = ρ.length
  | [] => rfl
  | v :: vs => by unfold wipeD; rw [List.length_set, wipeD_length ρ vs]
theorem wipeD_get (ρ : List Sl) (j : Nat) : ∀ vs : List Nat, (wipeD ρ vs)[j]? = if j ∈ vs then (if j < ρ.length then some .no else none) else ρ[j]?
  | [] => by simp [wipeD]
  | v :: vs => by
    unfold wipeD
    by_cases h : j = v
    · subst h
      rw [if_pos (List.mem_cons_self ..)]
      by_cases k : j < ρ.length
      · rw [if_pos k, List.getElem?_set_self (by rw [wipeD_length]; exact k)]
      · rw [if_neg k, List.getElem?_eq_none (by simp [wipeD_length]; omega)]
    · rw [List.getElem?_set_ne (Ne.symm h), wipeD_get ρ j vs]
      by_cases k : j ∈ vs
      · rw [if_pos k, if_pos (List.mem_cons_of_mem _ k)]
      · rw [if_neg k, if_neg fun z => (List.mem_cons.mp z).elim h k]
theorem mixD_length (ρ0 ρ : List Sl) : ∀ vs : List Nat, (mixD ρ0 ρ vs).length = ρ.length
  | [] => rfl
  | v :: vs => by unfold mixD; rw [List.length_set, mixD_length ρ0 ρ vs]
theorem mixD_get (ρ0 ρ : List Sl) (j : Nat) : ∀ vs : List Nat, (mixD ρ0 ρ vs)[j]? = if j ∈ vs then (if j < ρ.length then some (ρ0.getD j .no) else none) else ρ[j]?
  | [] => by simp [mixD]
  | v :: vs => by
    unfold mixD
    by_cases h : j = v
    · subst h
      rw [if_pos (List.mem_cons_self ..)]
      by_cases k : j < ρ.length
      · rw [if_pos k, List.getElem?_set_self (by rw [mixD_length]; exact k)]
      · rw [if_neg k, List.getElem?_eq_none (by simp [mixD_length]; omega)]
    · rw [List.getElem?_set_ne (Ne.symm h), mixD_get ρ0 ρ j vs]
      by_cases k : j ∈ vs
      · rw [if_pos k, if_pos (List.mem_cons_of_mem _ k)]
      · rw [if_neg k, if_neg fun z => (List.mem_cons.mp z).elim h k]
def plainSl (ρ : List Sl) (v : Nat) : Bool := match ρ[v]? with
  | some .no => true
  | some (.fz _) => true
  | _ => false
theorem plainSl_own {v : Nat} {s : Sl} (h : plainSl ρ v = true) (e : ρ[v]? = some s) : s.owned = false := by
  unfold plainSl at h
  rw [e] at h
  cases s <;> first | rfl | cases h
theorem Sl.mine_owned {s : Sl} (h : s.mine = true) : s.owned = true := by cases s <;> first | rfl | cases h
theorem Rel.wipe (R : Rel e Fo G σ H ρ) (vs : List Nat) : Rel e Fo G (L2.wipe σ vs) H (wipeD ρ vs) := by
  refine ⟨R.gh, R.fh, R.fg, .of_get (by rw [wipe_length, wipeD_length, R.len]) fun j o s h1 h2 => ?_, fun i j b s t h1 h2 o1 o2 e1 e2 => ?_⟩
  · rw [wipe_get] at h1
    rw [wipeD_get] at h2
    by_cases k : j ∈ vs
    · rw [if_pos k] at h1 h2
      by_cases l : j < ρ.length
      · rw [if_pos l] at h2
        cases h2
        exact .no
      · rw [if_neg l] at h2
        cases h2
    · rw [if_neg k] at h1 h2
      obtain ⟨o', e1, r⟩ := R.get h2
      rw [h1] at e1
      cases e1
      exact r
  · rw [wipe_get] at e1 e2
    rw [wipeD_get] at h1 h2
    by_cases k : i ∈ vs
    · rw [if_pos k] at e1
      by_cases l : i < σ.length
      · rw [if_pos l] at e1; cases e1
      · rw [if_neg l] at e1; cases e1
    · rw [if_neg k] at e1 h1
      by_cases k2 : j ∈ vs
      · rw [if_pos k2] at e2
        by_cases l : j < σ.length
        · rw [if_pos l] at e2; cases e2
        · rw [if_neg l] at e2; cases e2
      · rw [if_neg k2] at e2 h2
        exact R.ap i j b s t h1 h2 o1 o2 e1 e2
theorem Rel.mix {G0 H0 : Hp} {ρ0 : List Sl} {σ2 : St} {vs : List Nat} (R : Rel e Fo G σ2 H ρ) (R0 : Rel e Fo G0 σ H0 ρ0) (g : L2.Same G0 G) (hl : σ2.length = σ.length) (ho : ∀ j, j ∉ vs → σ2[j]? = σ[j]?) (hp : ∀ v ∈ vs, plainSl ρ0 v = true) : Rel e Fo G σ H (mixD ρ0 ρ vs) := by
  have hlen : ρ.length = ρ0.length := by rw [← R.len, ← R0.len, hl]
  have own_no : ∀ {j : Nat} {s : Sl}, (mixD ρ0 ρ vs)[j]? = some s → s.owned = true → j ∉ vs := fun {j s} h ow k => by
    rw [mixD_get, if_pos k] at h
    by_cases l : j < ρ.length
    · rw [if_pos l] at h
      have h2 : ρ0[j]? = some s := by
        rw [List.getElem?_eq_getElem (show j < ρ0.length by omega)]
        rw [List.getD_eq_getElem?_getD, List.getElem?_eq_getElem (show j < ρ0.length by omega)] at h
        exact h
      rw [plainSl_own (hp j k) h2] at ow
      cases ow
    · rw [if_neg l] at h
      cases h
  refine ⟨R.gh, R.fh, R.fg, .of_get (by rw [mixD_length, hlen, R0.len]) fun j o s h1 h2 => ?_, fun i j b s t h1 h2 o1 o2 e1 e2 => ?_⟩
  · by_cases k : j ∈ vs
    · rw [mixD_get, if_pos k] at h2
      by_cases l : j < ρ.length
      · rw [if_pos l] at h2
        have h3 : ρ0[j]? = some s := by
          rw [List.getElem?_eq_getElem (show j < ρ0.length by omega)]
          rw [List.getD_eq_getElem?_getD, List.getElem?_eq_getElem (show j < ρ0.length by omega)] at h2
          exact h2
        obtain ⟨o', e1, r⟩ := R0.get h3
        rw [h1] at e1
        cases e1
        cases r with
        | no => exact .no
        | fz r => exact .fz (r.mono g)
        | own r =>
          have := r.at.2.2.2
          rw [plainSl_own (hp j k) h3] at this
          cases this
      · rw [if_neg l] at h2
        cases h2
    · rw [mixD_get, if_neg k] at h2
      obtain ⟨o', e1, r⟩ := R.get h2
      rw [ho j k, h1] at e1
      cases e1
      exact r
  · have k1 := own_no h1 o1
    have k2 := own_no h2 o2
    rw [mixD_get, if_neg k1] at h1
    rw [mixD_get, if_neg k2] at h2
    exact R.ap i j b s t h1 h2 o1 o2 (by rw [ho i k1]; exact e1) (by rw [ho j k2]; exact e2)

def compL (own : List Nat) (t : D → So) (tt : Mo Bool) (el : Mo D) : List D → Mo (List D)
  | [] => fun ρ => .ok ρ []
  | d :: ds => fun ρ => match t d (wipeD ρ own) with
    | .nx ρ1 => (match tt ρ1 with
      | .ok ρ2 true => (match el ρ2 with
        | .ok ρ3 y => (match compL own t tt el ds (mixD ρ ρ3 own) with
          | .ok ρ4 ys => .ok ρ4 (y :: ys)
          | _ => .bad)
        | _ => .bad)
      | .ok ρ2 false => compL own t tt el ds (mixD ρ ρ2 own)
      | _ => .bad)
    | _ => .bad
def compE (own : List Nat) (t : D → So) (tt : Mo Bool) (el : Mo D) (acc : List D) (ds : List D) : Mo Sl := fun ρ => match compL own t tt el ds ρ with
  | .ok ρ' ys => .ok ρ' (.ow false (acc ++ ys))
  | _ => .bad
theorem compE_cons {own : List Nat} {t : D → So} {tt : Mo Bool} {el : Mo D} {accD ds : List D} {d : D} {ρ2 : List Sl} : compE own t tt el accD (d :: ds) ρ2 = (match t d (wipeD ρ2 own) with
      | .nx ρ1 => (match tt ρ1 with
        | .ok ρ2' true => (match el ρ2' with
          | .ok ρ3 y => compE own t tt el (accD ++ [y]) ds (mixD ρ2 ρ3 own)
          | _ => .bad)
        | .ok ρ2' false => compE own t tt el accD ds (mixD ρ2 ρ2' own)
        | _ => .bad)
      | _ => .bad) := by
  unfold compE
  rw [compL]
  dsimp only
  cases t d (wipeD ρ2 own) with
  | nx ρ1 =>
    dsimp only
    cases tt ρ1 with
    | ok ρ2' k =>
      cases k with
      | true =>
        dsimp only
        cases el ρ2' with
        | ok ρ3 y =>
          dsimp only
          cases compL own t tt el ds (mixD ρ2 ρ3 own) with
          | ok ρ4 ys => simp
          | exc ρ4 c fs => rfl
          | bad => rfl
        | exc ρ3 c fs => rfl
        | bad => rfl
      | false => rfl
    | exc ρ2' c fs => rfl
    | bad => rfl
  | bk ρ1 => rfl
  | ct ρ1 => rfl
  | rt ρ1 s => rfl
  | exc ρ1 c fs => rfl
  | bad => rfl
def compX (own : List Nat) (f : Mo (List D)) (t : D → So) (tt : Mo Bool) (el : Mo D) : Mo Sl := Mo.bind f fun ds ρ => if ds.length < sizeLine ∧ (own.all (plainSl ρ)) = true then compE own t tt el [] ds ρ else .bad
def yesT : Mo Bool := fun ρ => .ok ρ true
theorem comp_core {K : PySem.W.Frag} {W : WX} {f : Mo (List D)} {own is : List Nat} {t : D → So} {tt : Mo Bool} {el : Mo D} {Q : VK} (his : ∀ j ∈ is, j ∈ own) (h : tX e W (compX own f t tt el) σ H Q) :
    tLc (tI e W f) (tgR e is t) (tT e WF tt) (tD e WF el) own σ H Q := by
  obtain ⟨Fo, G, ρ, R, p⟩ := h
  refine tG.mono (Post.bind R p) fun J H1 ⟨G1, ρ1, ds, g1, R1, ⟨Y, w, hy⟩, p1⟩ => ?_
  by_cases c : ds.length < sizeLine ∧ (own.all (plainSl ρ1)) = true
  case neg =>
    rw [if_neg c] at p1
    exact p1.elim
  rw [if_pos c] at p1
  intro Da nD
  have fD : Fo Da = none := R1.fnone nD
  refine lc_it w (fun i H2 => ∃ (G2 : Hp) (ρ2 : List Sl) (acc : List V) (accD : List D), L2.Same G1 G2 ∧ Rel e (upd Fo Da (.lst acc)) G2 σ H2 ρ2 ∧ DRs e G2 acc accD ∧ acc.length ≤ i ∧ (∀ v ∈ own, plainSl ρ2 v = true) ∧
      Post e W (fun e Fo G σ H ρ v s => Val e Fo G σ H ρ v s) Fo G2 σ ρ2 (compE own t tt el accD (ds.drop i) ρ2) Q)
    ⟨G1, ρ1, [], [], L2.Same.refl _, R1.frame nD, .nil, Nat.le_refl _, List.all_eq_true.mp c.2, p1⟩ (fun i H2 _ ⟨G2, ρ2, acc, accD, g2, R2, _⟩ => ⟨G2, g2, R2.gh⟩) ?_ ?_
  · rintro i x H2 H3 hi ⟨G2, ρ2, acc, accD, g2, R2, ra, la, pl, p2⟩ y
    obtain ⟨G3, d, hd, gr, dr⟩ := hy i H2 x H3 G2 g2 R2.gh hi y
    have R3 := R2.gr gr
    have R3w := R3.wipe own
    rw [List.drop_eq_getElem_cons hi] at p2
    have hd2 : ds[i] = d := by
      rw [List.getElem?_eq_getElem hi] at hd
      exact Option.some.inj hd
    rw [hd2] at p2
    have e2 : compE own t tt el accD (d :: ds.drop (i + 1)) ρ2 = (match t d (wipeD ρ2 own) with
      | .nx ρ1 => (match tt ρ1 with
        | .ok ρ2' true => (match el ρ2' with
          | .ok ρ3 y => compE own t tt el (accD ++ [y]) (ds.drop (i + 1)) (mixD ρ2 ρ3 own)
          | _ => .bad)
        | .ok ρ2' false => compE own t tt el accD (ds.drop (i + 1)) (mixD ρ2 ρ2' own)
        | _ => .bad)
      | _ => .bad) := by
      exact compE_cons
    rw [e2] at p2
    cases q1 : t d (wipeD ρ2 own) with
    | nx ρ3 =>
      simp only [q1] at p2
      refine ⟨_, G3, _, d, R3w, dr, ρ3, q1, fun G4 σ4 H4 g4 k4 R4 l4 o4 => ?_⟩
      have o4' : ∀ j, j ∉ own → σ4[j]? = σ[j]? := fun j hj => by
        rw [o4 j fun z => hj (his j z), wipe_get, if_neg hj]
      have l4' : σ4.length = σ.length := by rw [l4, wipe_length]
      refine ⟨?_, _, G4, ρ3, R4, ?_⟩
      · apply List.ext_getElem?
        intro j
        rw [wipe_get, wipe_get, l4']
        by_cases k : j ∈ own
        · rw [if_pos k, if_pos k]
        · rw [if_neg k, if_neg k, o4' j k]
      have kp : ∀ {ρ5 : List Sl}, Keep ρ3 ρ5 → Keep ρ2 (mixD ρ2 ρ5 own) := fun {ρ5} k5 j s hs hm => by
        have hj : j ∉ own := fun z => by
          have := plainSl_own (pl j z) hs
          rw [Sl.mine_owned hm] at this
          cases this
        obtain ⟨_, s1, h1, m1⟩ := k4 j s (by rw [wipeD_get, if_neg hj]; exact hs) hm
        obtain ⟨s2, h2, m2⟩ := k5 j s1 h1 m1
        exact ⟨s2, by rw [mixD_get, if_neg hj]; exact h2, m2⟩
      have mx : ∀ {ρ5 : List Sl} {G5 : Hp} {H5 : Hp}, Rel e (upd Fo Da (.lst acc)) G5 σ4 H5 ρ5 → L2.Same G4 G5 → Rel e (upd Fo Da (.lst acc)) G5 σ H5 (mixD ρ2 ρ5 own) := fun {ρ5 G5 H5} R5 g5 =>
        R5.mix R3 (g4.trans g5) l4' o4' pl
      have plm : ∀ {ρ5 : List Sl}, ρ5.length = ρ2.length → ∀ v ∈ own, plainSl (mixD ρ2 ρ5 own) v = true := fun {ρ5} hl v hv => by
        have h2 := pl v hv
        unfold plainSl at h2 ⊢
        rw [mixD_get, if_pos hv]
        cases q : ρ2[v]? with
        | none => rw [q] at h2; cases h2
        | some s =>
          have lt : v < ρ2.length := by
            by_cases z : v < ρ2.length
            · exact z
            · rw [List.getElem?_eq_none (by omega)] at q; cases q
          rw [if_pos (by omega), List.getD_eq_getElem?_getD, q]
          rw [q] at h2
          exact h2
      have ll : ∀ {ρ5 : List Sl} {G5 : Hp} {H5 : Hp}, Rel e (upd Fo Da (.lst acc)) G5 σ4 H5 ρ5 → ρ5.length = ρ2.length := fun R5 => by rw [← R5.len, l4', R2.len]
      cases q2 : tt ρ3 with
      | ok ρ4 k =>
        simp only [q2] at p2
        intro G5 H5 v g5 k5 R5 hv
        cases (show v = k from hv)
        cases k with
        | true =>
          simp only at p2
          refine iteT ⟨_, G5, ρ4, R5, ?_⟩
          cases q3 : el ρ4 with
          | ok ρ5 yd =>
            simp only [q3] at p2
            intro G6 H6 yv g6 k6 R6 ry
            have ry' : DR e G6 yv yd := ry
            refine ⟨acc, R6.fh _ _ upd_same, by omega, G6, mixD ρ2 ρ5 own, acc ++ [yv], accD ++ [yd], (((g2.trans gr.g).trans g4).trans g5).trans g6, (mx R6 (g5.trans g6)).reframe, (ra.mono (((gr.g.trans g4).trans g5).trans g6)).append (.cons ry' .nil), by simp; omega, plm (ll R6),
              p2.from (((gr.g.trans g4).trans g5).trans g6) (kp (k5.trans k6))⟩
          | exc ρ5 c fs => simp only [q3] at p2; exact p2.elim
          | bad => simp only [q3] at p2; exact p2.elim
        | false =>
          simp only at p2
          exact iteF ⟨G5, mixD ρ2 ρ4 own, acc, accD, ((g2.trans gr.g).trans g4).trans g5, mx R5 g5, ra.mono ((gr.g.trans g4).trans g5), by omega, plm (ll R5), p2.from ((gr.g.trans g4).trans g5) (kp k5)⟩
      | exc ρ4 c fs => simp only [q2] at p2; exact p2.elim
      | bad => simp only [q2] at p2; exact p2.elim
    | bk ρ3 => simp only [q1] at p2; exact p2.elim
    | ct ρ3 => simp only [q1] at p2; exact p2.elim
    | rt ρ3 s => simp only [q1] at p2; exact p2.elim
    | exc ρ3 c fs => simp only [q1] at p2; exact p2.elim
    | bad => simp only [q1] at p2; exact p2.elim
  · rintro H2 ⟨G2, ρ2, acc, accD, g2, R2, ra, la, pl, p2⟩
    rw [List.drop_length] at p2
    have p3 : Post e W (fun e Fo G σ H ρ v s => Val e Fo G σ H ρ v s) Fo G2 σ ρ2 (.ok ρ2 (.ow false (accD ++ []))) Q := p2
    rw [List.append_nil] at p3
    have hD : H2 Da = some (.lst acc) := R2.fh _ _ upd_same
    have gD : G2 Da = none := R2.fg _ _ upd_same
    refine p3 G2 H2 (.ref Da) (L2.Same.refl _) (Keep.refl _) (R2.unframe fD) ⟨.own (.ow hD ra gD fD), rfl, fun _ b i s ev hs ho he => ?_⟩
    cases ev
    obtain ⟨o, h1, h2⟩ := R2.get hs
    rw [he] at h1
    cases h1
    obtain ⟨b', e', q⟩ := h2.owned ho
    cases e'
    have := q.at.2.2.1
    rw [upd_same] at this
    cases this
end
section
variable {X : Cx} {e : Ev} {W : WX}
theorem xts_nil : PTs X [] (tT e WF yesT) := ⟨fun pins s σ H Q I ⟨Fo, G, ρ, R, p⟩ => pts_nil.run pins s σ H Q I (p.here R rfl)⟩
theorem xts_one {c : Expr} {t : Mo Bool} (h : PT X c (tT e WF t)) : PTs X [c] (tT e WF t) := pts_one h
/-- the block's context -/
theorem EC.blk (C : EC X e W) (s : Shared) (H : Hp) (scope : Scope) (cenv : Env) (fp : List Addr) : EC (X.blk s H scope cenv fp) e WF :=
  ⟨C.K, C.mg, C.nd, takes0, PassesOwn.never⟩
theorem xx_comp {elt tg iter : Expr} {ifs : List Expr} {scope : Scope} {own : List (Str × Nat)} {is : List Nat} {pos : Pos} {f : Mo (List D)} {t : D → So} {tt : Mo Bool} {el : Mo Sl} (C : EC X e W) (cm : X.calm = true) (hi : PI X tg iter (tI e W f)) (ok : BlkOk X.N X.env.scope scope own) (his : ∀ j ∈ is, j ∈ own.map (·.2))
    (hg : ∀ (Y : Cx), EC Y e WF → Y.calm = true → (∃ (s : Shared) (H : Hp) (Cc : Addr) (cl : List (Str × Addr)) (fp : List Addr), Y = X.blk s H scope (compEnvC scope cl Cc X.env) fp) → PG Y tg (tgR e is t) ∧ PTs Y ifs (tT e WF tt) ∧ PE Y elt (tX e WF el))
    (hs : ∀ x, foldedSetIterable iter X.env x = pure x := by intro _; rfl) : PE X (.ListComp elt [⟨tg, iter, ifs, 0⟩] scope pos) (tX e W (compX (own.map (·.2)) f t tt (frzD el))) :=
  (pe_lc cm C.nd hi ok (fun s H Cc cl fp => (hg _ (C.blk s H scope _ fp) cm ⟨s, H, Cc, cl, fp, rfl⟩).1) (fun s H Cc cl fp => (hg _ (C.blk s H scope _ fp) cm ⟨s, H, Cc, cl, fp, rfl⟩).2.1) (fun s H Cc cl fp => xd_of (hg _ (C.blk s H scope _ fp) cm ⟨s, H, Cc, cl, fp, rfl⟩).2.2) hs).imp fun σ H Q h => comp_core (K := e.K) his h
end
end L2.WD
/-! The data layer, part 6: tests, operators, subscripts. -/
namespace L2.WD
open PySem PySem.Spec PyProof.Rows

/-! ### truth -/
def truD : D → Option Bool
  | .non => some false
  | .bl b => some b
  | .int i => some (i != 0)
  | .str s => if s.length ≤ sizeLine then some ((s.length : Int) != 0) else none
  | .lst xs => some (!xs.isEmpty)
  | .tup xs => some (!xs.isEmpty)
  | .dic xs => some (!xs.isEmpty)
  | .scr xs => some (!xs.isEmpty)
  | _ => none
section
variable {e : Ev} {G H : Hp} {v : V} {d : D} {k : Bool}
theorem DRs.isEmpty {vs : List V} {ds : List D} (h : DRs e G vs ds) : vs.isEmpty = ds.isEmpty := by cases h <;> rfl
theorem DRk.isEmpty {vs : List (Key × V)} {ds : List (Key × D)} (h : DRk e G vs ds) : vs.isEmpty = ds.isEmpty := by cases h <;> rfl
theorem tru_co {K : PySem.W.Frag} (hK : K = e.K) (g : L2.Same G H) (h : CoR e G H v d) (t : truD d = some k) : TruV K v H k := by
  subst hK
  cases d with
  | non => cases h.non; cases t; rfl
  | bl b => cases h.bl; cases t; rfl
  | int i => cases h.int; cases t; rfl
  | str s =>
    cases h.str
    simp only [truD] at t
    by_cases c : s.length ≤ sizeLine
    · rw [if_pos c] at t
      cases t
      exact ⟨c, rfl⟩
    · rw [if_neg c] at t
      cases t
  | lst xs =>
    obtain ⟨b, ws, rfl, h1, h2⟩ := h.lst g
    cases t
    exact .inl ⟨ws, SqL.of h1, by rw [h2.isEmpty]⟩
  | tup xs =>
    obtain ⟨b, ws, rfl, h1, h2⟩ := h.tup g
    cases t
    exact .inr (.inl ⟨ws, h1, by rw [h2.isEmpty]⟩)
  | dic xs =>
    cases h with
    | st r =>
      cases r with
      | dic h1 h2 =>
        cases t
        exact .inr (.inr ⟨_, g _ _ h1, by rw [h2.isEmpty]⟩)
  | scr ns =>
    obtain ⟨b, rfl, h1⟩ := h.scr g
    cases t
    exact .inl ⟨_, h1, by simp⟩
  | _ => cases t
end
def truO (f : Mo Ar) : Mo Bool := Mo.bind f fun a ρ => match con ρ a with
  | some d => retO ρ (truD d)
  | none => .bad
def tstB (f : Mo Sl) : Mo Bool := Mo.bind f fun s ρ => match s with
  | .fz (.bl b) => .ok ρ b
  | _ => .bad
def andT (t u : Mo Bool) : Mo Bool := Mo.bind t fun c => if c = true then u else Mo.pure false
def orT (t u : Mo Bool) : Mo Bool := Mo.bind t fun c => if c = true then Mo.pure true else u
def notT (t : Mo Bool) : Mo Bool := Mo.bind t fun c => Mo.pure (!c)
def notX (f : Mo Ar) : Mo Sl := Mo.bind (truO f) fun c => Mo.pure (.fz (.bl (!c)))
def andO (f g : Mo Ar) : Mo Ar := Mo.bind f fun a ρ => match con ρ a with
  | some d => (match truD d with
    | some true => g ρ
    | some false => .ok ρ a
    | none => .bad)
  | none => .bad
def orO (f g : Mo Ar) : Mo Ar := Mo.bind f fun a ρ => match con ρ a with
  | some d => (match truD d with
    | some true => .ok ρ a
    | some false => g ρ
    | none => .bad)
  | none => .bad
def ifE {α : Type} (t : Mo Bool) (f g : Mo α) : Mo α := Mo.bind t fun c => if c = true then f else g
section
variable {X : Cx} {e : Ev} {W : WX} {a b c : Expr} {rest : List Expr} {pos : Pos} {fa fb : Mo Ar} {t u : Mo Bool}
theorem TruV.imp_of {K : PySem.W.Frag} : True := trivial
theorem tru_core {K : PySem.W.Frag} (hK : K = e.K) {σ : St} {H : Hp} {Q : Bool → Hp → Prop} (h : tT e W (truO fa) σ H Q) : tO e W fa σ H fun x H' => ∃ k, TruV K x H' k ∧ Q k H' := by
  obtain ⟨Fo, G0, ρ, R, p⟩ := h
  refine tG.mono (Post.bind R p) fun x H1 ⟨G1, ρ1, a1, g1, R1, r1, p1⟩ => ?_
  cases q1 : con ρ1 a1 with
  | none => simp only [q1] at p1; exact p1.elim
  | some d1 =>
    simp only [q1] at p1
    cases q3 : truD d1 with
    | none => simp only [q3, retO] at p1; exact p1.elim
    | some k =>
      simp only [q3, retO] at p1
      exact ⟨k, tru_co hK R1.gh (r1.co R1 q1) q3, p1.here R1 rfl⟩
theorem xt_tru (C : EC X e W) (ha : PE X a (tO e W fa)) (he : ∀ whole, isTrue a X.env whole = (do let v ← whole; standAt a.pos; holding [v] (truthy v)) := by intro _; rfl) : PT X a (tT e W (truO fa)) :=
  (pt_truth ha he).imp fun σ H Q h => tru_core C.K h
theorem tst_core {f : Mo Sl} {σ : St} {H : Hp} {Q : Bool → Hp → Prop} (h : tT e W (tstB f) σ H Q) : tX e W f σ H fun x H' => ∃ k, x = .bl k ∧ Q k H' := by
  obtain ⟨Fo, G0, ρ, R, p⟩ := h
  refine tG.mono (Post.bind R p) fun x H1 ⟨G1, ρ1, s, g1, R1, r1, p1⟩ => ?_
  cases s with
  | fz d =>
    cases d with
    | bl k =>
      obtain ⟨r, _⟩ := r1
      cases r with
      | fz r =>
        cases r
        exact ⟨k, rfl, p1.here R1 rfl⟩
      | own r => cases r
    | _ => exact p1.elim
  | _ => exact p1.elim
theorem xt_cmp {op : CmpOp} {r : R2} {g : D → D → Option Sl} (ho : OpR X (compareOp op) r) (hg : OpG e r g) (ha : PE X a (tO e W fa)) (hb : PE X b (tO e W fb)) (hm : behindInMarks op b = false) : PT X (.Compare a [op] [b] pos) (tT e W (tstB (binX g fa fb))) :=
  (pt_cmpR ho ha hb hm).imp fun σ H Q h => bin_core hg (tst_core h)
theorem and_core {σ : St} {H : Hp} {Q : Bool → Hp → Prop} (h : tT e W (andT t u) σ H Q) : tAnd (tT e W t) (tT e W u) σ H Q := by
  obtain ⟨Fo, G0, ρ, R, p⟩ := h
  refine tG.mono (Post.bind R p) fun c H1 ⟨G1, ρ1, k, g1, R1, r1, p1⟩ => ?_
  cases (show c = k from r1)
  cases c with
  | true => exact iteT ⟨Fo, G1, ρ1, R1, p1⟩
  | false => exact iteF (Post.here (v := false) R1 p1 rfl)
theorem or_core {σ : St} {H : Hp} {Q : Bool → Hp → Prop} (h : tT e W (orT t u) σ H Q) : tOr (tT e W t) (tT e W u) σ H Q := by
  obtain ⟨Fo, G0, ρ, R, p⟩ := h
  refine tG.mono (Post.bind R p) fun c H1 ⟨G1, ρ1, k, g1, R1, r1, p1⟩ => ?_
  cases (show c = k from r1)
  cases c with
  | false => exact iteF ⟨Fo, G1, ρ1, R1, p1⟩
  | true => exact iteT (Post.here (v := true) R1 p1 rfl)
theorem not_core {σ : St} {H : Hp} {Q : Bool → Hp → Prop} (h : tT e W (notT t) σ H Q) : tT e W t σ H fun c H1 => Q (!c) H1 := by
  obtain ⟨Fo, G0, ρ, R, p⟩ := h
  refine tG.mono (Post.bind R p) fun c H1 ⟨G1, ρ1, k, g1, R1, r1, p1⟩ => ?_
  cases (show c = k from r1)
  exact Post.here (v := !c) R1 p1 rfl
theorem xw_and1 (ha : PT X a (tT e W t)) : PW X (.BoolOp .And [a] pos) (tT e W t) := pw_and1 ha
theorem xw_or1 (ha : PT X a (tT e W t)) : PW X (.BoolOp .Or [a] pos) (tT e W t) := pw_or1 ha
theorem xw_and (ha : PT X a (tT e W t)) (hb : PW X (.BoolOp .And (b :: rest) pos) (tT e W u)) : PW X (.BoolOp .And (a :: b :: rest) pos) (tT e W (andT t u)) := (pw_and ha hb).imp fun _ _ _ h => and_core h
theorem xw_or (ha : PT X a (tT e W t)) (hb : PW X (.BoolOp .Or (b :: rest) pos) (tT e W u)) : PW X (.BoolOp .Or (a :: b :: rest) pos) (tT e W (orT t u)) := (pw_or ha hb).imp fun _ _ _ h => or_core h
theorem xt_not (ha : PT X a (tT e W t)) : PT X (.UnaryOp .Not a pos) (tT e W (notT t)) := (pt_not ha).imp fun _ _ _ h => not_core h
theorem xx_not (C : EC X e W) (ha : PE X a (tO e W fa)) : PE X (.UnaryOp .Not a pos) (tX e W (notX fa)) := (pe_notT ha).imp fun σ H Q ⟨Fo, G, ρ, R, p⟩ =>
  tru_core C.K (tG.mono (Post.bind R p) fun c H1 ⟨G1, ρ1, k, g1, R1, r1, p1⟩ => by
    cases (show c = k from r1)
    exact Post.here (v := V.bl (!c)) R1 p1 (.fz (.bl _)))
theorem xo_one {op : BoolOp} (ha : PE X a (tO e W fa)) : PE X (.BoolOp op [a] pos) (tO e W fa) := pe_one ha
theorem xo_and (C : EC X e W) (ha : PE X a (tO e W fa)) (hb : PE X (.BoolOp .And (b :: rest) pos) (tO e W fb)) : PE X (.BoolOp .And (a :: b :: rest) pos) (tO e W (andO fa fb)) := (pe_andT ha hb).imp fun σ H Q ⟨Fo, G, ρ, R, p⟩ => by
  refine tG.mono (Post.bind R p) fun x H1 ⟨G1, ρ1, a1, g1, R1, r1, p1⟩ => ?_
  cases q1 : con ρ1 a1 with
  | none => simp only [q1] at p1; exact p1.elim
  | some d1 =>
    simp only [q1] at p1
    cases q3 : truD d1 with
    | none => simp only [q3] at p1; exact p1.elim
    | some k =>
      simp only [q3] at p1
      refine ⟨k, tru_co C.K R1.gh (r1.co R1 q1) q3, ?_⟩
      cases k with
      | true => exact iteT ⟨Fo, G1, ρ1, R1, p1⟩
      | false => exact iteF (p1.here R1 r1)
theorem xo_or (C : EC X e W) (ha : PE X a (tO e W fa)) (hb : PE X (.BoolOp .Or (b :: rest) pos) (tO e W fb)) : PE X (.BoolOp .Or (a :: b :: rest) pos) (tO e W (orO fa fb)) := (pe_orT ha hb).imp fun σ H Q ⟨Fo, G, ρ, R, p⟩ => by
  refine tG.mono (Post.bind R p) fun x H1 ⟨G1, ρ1, a1, g1, R1, r1, p1⟩ => ?_
  cases q1 : con ρ1 a1 with
  | none => simp only [q1] at p1; exact p1.elim
  | some d1 =>
    simp only [q1] at p1
    cases q3 : truD d1 with
    | none => simp only [q3] at p1; exact p1.elim
    | some k =>
      simp only [q3] at p1
      refine ⟨k, tru_co C.K R1.gh (r1.co R1 q1) q3, ?_⟩
      cases k with
      | false => exact iteF ⟨Fo, G1, ρ1, R1, p1⟩
      | true => exact iteT (p1.here R1 r1)
theorem xx_ifE {α : Type} {Rl : RlT α V} {f g : Mo α} (hc : PT X c (tT e W t)) (ha : PE X a (tG e W Rl f)) (hb : PE X b (tG e W Rl g)) : PE X (.IfExp c a b pos) (tG e W Rl (ifE t f g)) := (pe_ifExp hc ha hb).imp fun σ H Q ⟨Fo, G, ρ, R, p⟩ => by
  refine tG.mono (Post.bind R p) fun x H1 ⟨G1, ρ1, k, g1, R1, r1, p1⟩ => ?_
  cases (show x = k from r1)
  cases x with
  | false => exact iteF ⟨Fo, G1, ρ1, R1, p1⟩
  | true => exact iteT ⟨Fo, G1, ρ1, R1, p1⟩
/-! ### chains -/
def chX (g g' : D → D → Option Sl) (fa fb fc : Mo Ar) : Mo Sl := Mo.bind fa fun a => Mo.bind fb fun b ρ => match con ρ a, con ρ b with
  | some d1, some d2 => (match g d1 d2 with
    | some (.fz (.bl true)) => Mo.bind fc (fun c ρ' => match con ρ' b, con ρ' c with
      | some d2, some d3 => retO ρ' (g' d2 d3)
      | _, _ => .bad) ρ
    | some (.fz (.bl false)) => .ok ρ (.fz (.bl false))
    | _ => .bad)
  | _, _ => .bad
theorem chain_core {r r' : R2} {g g' : D → D → Option Sl} {fc : Mo Ar} (Gg : OpG e r g) (Gg' : OpG e r' g') {σ : St} {H : Hp} {Q : VK} (h : tX e W (chX g g' fa fb fc) σ H Q) : tChain r r' (tO e W fa) (tO e W fb) (tO e W fc) σ H Q := by
  obtain ⟨Fo, G0, ρ, R, p⟩ := h
  refine tG.mono (Post.bind R p) fun x H1 ⟨G1, ρ1, a1, g1, R1, r1, p1⟩ => ?_
  refine tG.mono (Post.bind R1 p1) fun y H2 ⟨G2, ρ2, a2, g2, R2, r2, p2⟩ => ?_
  cases q1 : con ρ2 a1 with
  | none => simp only [q1] at p2; exact p2.elim
  | some d1 =>
    cases q2 : con ρ2 a2 with
    | none => simp only [q1, q2] at p2; exact p2.elim
    | some d2 =>
      simp only [q1, q2] at p2
      cases q3 : g d1 d2 with
      | none => simp only [q3] at p2; exact p2.elim
      | some s =>
        simp only [q3] at p2
        refine Gg G2 H2 x y d1 d2 s _ R2.gh ((r1.mono g2 : ArR e Fo G2 σ H2 ρ2 x a1).co R2 q1) (r2.co R2 q2) q3 fun G3 H3 v gr n => ?_
        have R3 := R2.gr gr
        cases s with
        | fz d =>
          cases d with
          | bl k =>
            cases (show DR e G3 v (.bl k) from n)
            refine ⟨k, rfl, ?_⟩
            cases k with
            | false =>
              simp only at p2
              exact iteF (p2 G3 H3 _ gr.g (Keep.refl _) R3 (.fz (.bl _)))
            | true =>
              simp only at p2
              refine iteT (tG.mono (Post.bind R3 (p2.from gr.g (Keep.refl _))) fun z H4 ⟨G4, ρ4, a4, g4, R4, r4, p4⟩ => ?_)
              cases q4 : con ρ4 a2 with
              | none => simp only [q4] at p4; exact p4.elim
              | some d2' =>
                cases q5 : con ρ4 a4 with
                | none => simp only [q4, q5] at p4; exact p4.elim
                | some d3 =>
                  simp only [q4, q5] at p4
                  cases q6 : g' d2' d3 with
                  | none => simp only [q6, retO] at p4; exact p4.elim
                  | some s' =>
                    simp only [q6, retO] at p4
                    exact Gg' G4 H4 y z d2' d3 s' Q R4.gh ((r2.mono (gr.g.trans g4) : ArR e Fo G4 σ H4 ρ4 y a2).co R4 q4) (r4.co R4 q5) q6 fun G' H' v gr n => p4.new R4 gr n
          | _ => exact p2.elim
        | _ => exact p2.elim
theorem xx_chain {op op' : CmpOp} {r r' : R2} {g g' : D → D → Option Sl} {fc : Mo Ar} (ho : OpR X (compareOp op) r) (ho' : OpR X (compareOp op') r') (hg : OpG e r g) (hg' : OpG e r' g') (ha : PE X a (tO e W fa)) (hb : PE X b (tO e W fb)) (hc : PE X c (tO e W fc))
    (hm : lastMarks [op, op'] [b, c] = false := by with_unfolding_all rfl) : PE X (.Compare a [op, op'] [b, c] pos) (tX e W (chX g g' fa fb fc)) := (pe_chain ho ho' ha hb hc hm).imp fun _ _ _ h => chain_core hg hg' h
theorem xt_chain {op op' : CmpOp} {r r' : R2} {g g' : D → D → Option Sl} {fc : Mo Ar} (ho : OpR X (compareOp op) r) (ho' : OpR X (compareOp op') r') (hg : OpG e r g) (hg' : OpG e r' g') (ha : PE X a (tO e W fa)) (hb : PE X b (tO e W fb)) (hc : PE X c (tO e W fc))
    (hm : lastMarks [op, op'] [b, c] = false := by with_unfolding_all rfl) : PT X (.Compare a [op, op'] [b, c] pos) (tT e W (tstB (chX g g' fa fb fc))) := (pt_chain ho ho' ha hb hc hm).imp fun _ _ _ h => chain_core hg hg' (tst_core h)
end

/-! ### operators: rules for any of several kinds -/
def ror (r r' : R2) : R2 := fun x y H Q => r x y H Q ∨ r' x y H Q
section
variable {X : Cx} {e : Ev}
theorem opr_or {f : Value → Value → Sem Value} {r r' : R2} (h : OpR X f r) (h' : OpR X f r') : OpR X f (ror r r') := fun pins s σ H x y v u Q I rx ry q =>
  q.elim (fun q => h pins s σ H x y v u Q I rx ry q) fun q => h' pins s σ H x y v u Q I rx ry q
/-- + -/
def rAddU (K : PySem.W.Frag) : R2 := ror (rI0 fun i j => .int (i + j)) (ror (fun x y H Q => ∃ i j, x = .str i ∧ y = .str j ∧ i.length + j.length ≤ sizeLine ∧ Q (.str (i ++ j)) H) (ror rCat (rCatA K)))
theorem op_addU (C : X.K = e.K) : OpR X (binaryOp .Add) (rAddU e.K) := opr_or op_add (opr_or op_add_str (opr_or op_cat (by rw [← C]; exact op_catA)))
def addD : D → D → Option Sl
  | .int i, .int j => some (.fz (.int (i + j)))
  | .str a, .str b => if a.length + b.length ≤ sizeLine then some (.fz (.str (a ++ b))) else none
  | .lst xs, .lst ys => if xs.length + ys.length ≤ sizeLine then some (.ow false (xs ++ ys)) else none
  | .tup xs, .tup ys => if xs.length + ys.length ≤ sizeLine then some (.fz (.tup (xs ++ ys))) else none
  | _, _ => none
theorem Gr.new_tup {G H : Hp} {p : Addr} {ws : List V} {ds : List D} (g : L2.Same G H) (n : H p = none) (r : DRs e G ws ds) : Gr G H (upd G p (.tup ws)) (upd H p (.tup ws)) ∧ DR e (upd G p (.tup ws)) (.ref p) (.tup ds) :=
  ⟨Gr.lay2 g n, .tup (SqT.of upd_same) (r.mono (same_upd (g.free n)))⟩
theorem Gr.new_lst {G H : Hp} {p : Addr} {ws : List V} {ds : List D} (g : L2.Same G H) (n : H p = none) (r : DRs e G ws ds) : Gr G H G (upd H p (.lst ws)) ∧ New e H G (upd H p (.lst ws)) (.ref p) (.ow false ds) :=
  ⟨Gr.lay g n, rfl, p, ws, rfl, n, upd_same, r, g.free n⟩
theorem og_add : OpG e (rAddU e.K) addD := by
  intro G H x y d1 d2 s Q g h1 h2 hs q
  cases d1 with
  | int i =>
    cases d2 with
    | int j =>
      cases hs
      exact .inl ⟨i, j, h1.int, h2.int, q G H _ (Gr.refl g) (.int _)⟩
    | _ => cases hs
  | str a =>
    cases d2 with
    | str b =>
      simp only [addD] at hs
      by_cases c : a.length + b.length ≤ sizeLine
      · rw [if_pos c] at hs
        cases hs
        exact .inr (.inl ⟨a, b, h1.str, h2.str, c, q G H _ (Gr.refl g) (.str _)⟩)
      · rw [if_neg c] at hs
        cases hs
    | _ => cases hs
  | lst xs =>
    cases d2 with
    | lst ys =>
      simp only [addD] at hs
      by_cases c : xs.length + ys.length ≤ sizeLine
      · rw [if_pos c] at hs
        cases hs
        obtain ⟨b1, ws1, rfl, k1, k2⟩ := h1.lst g
        obtain ⟨b2, ws2, rfl, k3, k4⟩ := h2.lst g
        refine .inr (.inr (.inl ⟨b1, b2, ws1, ws2, rfl, rfl, k1, k3, by rw [k2.length, k4.length]; exact c, fun p np => ?_⟩))
        have := Gr.new_lst g np (k2.append k4)
        exact q _ _ _ this.1 this.2
      · rw [if_neg c] at hs
        cases hs
    | _ => cases hs
  | tup xs =>
    cases d2 with
    | tup ys =>
      simp only [addD] at hs
      by_cases c : xs.length + ys.length ≤ sizeLine
      · rw [if_pos c] at hs
        cases hs
        obtain ⟨b1, ws1, e1, k1, k2⟩ := h1.tup g
        obtain ⟨b2, ws2, e2, k3, k4⟩ := h2.tup g
        have d1 : DR e G x (.tup xs) := h1.dr fun _ z => nomatch z
        have d2 : DR e G y (.tup ys) := h2.dr fun _ z => nomatch z
        subst e1 e2
        refine .inr (.inr (.inr ⟨b1, b2, ws1, ws2, rfl, rfl, k1, k3, by rw [k2.length, k4.length]; exact c, fun z => ?_, fun _ z => ?_, fun _ _ p np => ?_⟩))
        · subst z
          cases k2
          exact q G H _ (Gr.refl g) d2
        · subst z
          cases k4
          rw [List.append_nil] at q
          exact q G H _ (Gr.refl g) d1
        · have := Gr.new_tup g np (k2.append k4)
          exact q _ _ _ this.1 this.2
      · rw [if_neg c] at hs
        cases hs
    | _ => cases hs
  | _ => cases d2 <;> cases hs
/-- -, *, //, %, ** of whole numbers -/
def intD (c : Int → Int → Bool) (f : Int → Int → Int) : D → D → Option Sl
  | .int i, .int j => if c i j = true then some (.fz (.int (f i j))) else none
  | _, _ => none
theorem og_int {C : Int → Int → Prop} {c : Int → Int → Bool} {f : Int → Int → Int} (hc : ∀ i j, c i j = true → C i j) : OpG e (rI C fun i j => .int (f i j)) (intD c f) := by
  intro G H x y d1 d2 s Q g h1 h2 hs q
  cases d1 with
  | int i =>
    cases d2 with
    | int j =>
      simp only [intD] at hs
      by_cases k : c i j = true
      · rw [if_pos k] at hs
        cases hs
        exact ⟨i, j, h1.int, h2.int, hc i j k, q G H _ (Gr.refl g) (.int _)⟩
      · rw [if_neg k] at hs
        cases hs
    | _ => cases hs
  | _ => cases d2 <;> cases hs
def subD : D → D → Option Sl := intD (fun _ _ => true) fun i j => i - j
theorem op_subU : OpR X (binaryOp .Sub) (rI (fun _ _ => True) fun i j => .int (i - j)) := fun pins s σ H x y v u Q I rx ry ⟨i, j, h1, h2, _, q⟩ => op_sub pins s σ H x y v u Q I rx ry ⟨i, j, h1, h2, q⟩
theorem og_sub : OpG e (rI (fun _ _ => True) fun i j => .int (i - j)) subD := og_int fun _ _ _ => trivial
def mulD : D → D → Option Sl := intD (fun i j => decide (i.natAbs.log2 + j.natAbs.log2 < 1000000)) fun i j => i * j
theorem og_mul : OpG e (rI CMulW fun i j => .int (i * j)) mulD := og_int fun i j h => (show i.natAbs.log2 + j.natAbs.log2 < 1000000 from of_decide_eq_true h)
def fdivD : D → D → Option Sl := intD (fun _ j => decide (0 < j ∧ j.natAbs.log2 < 9000)) fun i j => i / j
theorem og_fdiv : OpG e (rI CDivW fun i j => .int (i / j)) fdivD := og_int fun i j h => (show 0 < j ∧ j.natAbs.log2 < 9000 from of_decide_eq_true h)
def modD : D → D → Option Sl := intD (fun _ j => decide (0 < j)) fun i j => i % j
theorem og_mod : OpG e (rI (fun _ j => 0 < j) fun i j => .int (i % j)) modD := og_int fun _ _ h => of_decide_eq_true h
def powD : D → D → Option Sl := intD (fun i j => decide (0 ≤ j ∧ j ≤ 1000000 ∧ i.natAbs < 2 ^ 64)) fun i j => i ^ j.toNat
theorem og_pow : OpG e (rI CPow fun i j => .int (i ^ j.toNat)) powD := og_int fun i j h => (show 0 ≤ j ∧ j ≤ 1000000 ∧ i.natAbs < 2 ^ 64 from of_decide_eq_true h)
def shlD : D → D → Option Sl := intD (fun i j => decide (0 ≤ j ∧ j ≤ 1000000 ∧ i.natAbs < 2 ^ 64)) fun i j => i * 2 ^ j.toNat
theorem og_shl : OpG e (rI CPow fun i j => .int (i * 2 ^ j.toNat)) shlD := og_int fun i j h => (show 0 ≤ j ∧ j ≤ 1000000 ∧ i.natAbs < 2 ^ 64 from of_decide_eq_true h)
def shrD : D → D → Option Sl := intD (fun _ j => decide (0 ≤ j)) fun i j => i / 2 ^ j.toNat
theorem og_shr : OpG e (rI (fun _ j => 0 ≤ j) fun i j => .int (i / 2 ^ j.toNat)) shrD := og_int fun _ _ h => of_decide_eq_true h
/-! ### comparisons -/
def blS (b : Bool) : Option Sl := some (.fz (.bl b))
def cmpD (f : Int → Int → Bool) (g : Str → Str → Bool) : D → D → Option Sl
  | .int i, .int j => blS (f i j)
  | .str i, .str j => blS (g i j)
  | _, _ => none
def rCmp (f : Int → Int → Bool) (g : Str → Str → Bool) : R2 := ror (rI0 fun i j => .bl (f i j)) (fun x y H Q => ∃ i j, x = .str i ∧ y = .str j ∧ Q (.bl (g i j)) H)
theorem og_cmp {f : Int → Int → Bool} {g : Str → Str → Bool} : OpG e (rCmp f g) (cmpD f g) := by
  intro G H x y d1 d2 s Q gh h1 h2 hs q
  cases d1 with
  | int i =>
    cases d2 with
    | int j => cases hs; exact .inl ⟨i, j, h1.int, h2.int, q G H _ (Gr.refl gh) (.bl _)⟩
    | _ => cases hs
  | str i =>
    cases d2 with
    | str j => cases hs; exact .inr ⟨i, j, h1.str, h2.str, q G H _ (Gr.refl gh) (.bl _)⟩
    | _ => cases hs
  | _ => cases d2 <;> cases hs
def ltD := cmpD (fun i j => decide (i < j)) fun a b => decide (a.cps.toList < b.cps.toList)
def leD := cmpD (fun i j => decide (i ≤ j)) fun a b => !decide (b.cps.toList < a.cps.toList)
def gtD := cmpD (fun i j => decide (j < i)) fun a b => decide (b.cps.toList < a.cps.toList)
def geD := cmpD (fun i j => decide (j ≤ i)) fun a b => !decide (a.cps.toList < b.cps.toList)
theorem op_ltU : OpR X (compareOp .Lt) (rCmp (fun i j => decide (i < j)) fun a b => decide (a.cps.toList < b.cps.toList)) := opr_or op_lt op_lt_str
theorem op_leU : OpR X (compareOp .LtE) (rCmp (fun i j => decide (i ≤ j)) fun a b => !decide (b.cps.toList < a.cps.toList)) := opr_or op_le op_le_str
theorem op_gtU : OpR X (compareOp .Gt) (rCmp (fun i j => decide (j < i)) fun a b => decide (b.cps.toList < a.cps.toList)) := opr_or op_gt op_gt_str
theorem op_geU : OpR X (compareOp .GtE) (rCmp (fun i j => decide (j ≤ i)) fun a b => !decide (a.cps.toList < b.cps.toList)) := opr_or op_ge op_ge_str
mutual
def toPy : D → Option PyData
  | .non => some .none
  | .bl b => some (.bool b)
  | .int i => some (.int i)
  | .str s => some (.str s)
  | .lst xs => (toPys xs).map .list
  | .tup xs => (toPys xs).map .tuple
  | _ => none
def toPys : List D → Option (List PyData)
  | [] => some []
  | d :: ds => match toPy d, toPys ds with
    | some p, some ps => some (p :: ps)
    | _, _ => none
end
section
variable {K : PySem.W.Frag} {G H : Hp}
mutual
theorem dp_of (g : L2.Same G H) : ∀ (d : D) (v : V) (p : PyData), DR e G v d → toPy d = some p → Dp e.K H v p
  | .non, _, _, h, t => by cases h; cases t; exact .non
  | .bl b, _, _, h, t => by cases h; cases t; exact .bl _
  | .int i, _, _, h, t => by cases h; cases t; exact .int _
  | .str s, _, _, h, t => by cases h; cases t; exact .str _
  | .lst xs, _, _, h, t => by
    cases h with
    | lst h1 h2 =>
      unfold toPy at t
      obtain ⟨ps, t1, t2⟩ := Option.map_eq_some_iff.mp t
      subst t2
      exact .lst (SqL.of (g _ _ h1)) (dps_of g xs _ ps h2 t1)
  | .tup xs, _, _, h, t => by
    cases h with
    | tup h1 h2 =>
      unfold toPy at t
      obtain ⟨ps, t1, t2⟩ := Option.map_eq_some_iff.mp t
      subst t2
      exact .tup (Same.seqT g h1) (dps_of g xs _ ps h2 t1)
  | .dic _, _, _, _, t => by cases t
  | .obj _ _, _, _, _, t => by cases t
  | .exc _ _, _, _, _, t => by cases t
  | .cls _, _, _, _, t => by cases t
  | .fn _, _, _, _, t => by cases t
  | .ty _, _, _, _, t => by cases t
  | .scr _, _, _, _, t => by cases t
theorem dps_of (g : L2.Same G H) : ∀ (ds : List D) (vs : List V) (ps : List PyData), DRs e G vs ds → toPys ds = some ps → DpAll e.K H vs ps
  | [], _, _, h, t => by cases h; cases t; exact .nil
  | d :: ds, _, _, h, t => by
    cases h with
    | cons h1 h2 =>
      unfold toPys at t
      cases q1 : toPy d with
      | none => simp only [q1] at t; cases t
      | some p =>
        cases q2 : toPys ds with
        | none => simp only [q1, q2] at t; cases t
        | some ps =>
          simp only [q1, q2] at t
          cases t
          exact .cons (dp_of g d _ p h1 q1) (dps_of g ds _ ps h2 q2)
end
theorem dp_co (g : L2.Same G H) {d : D} {v : V} {p : PyData} (h : CoR e G H v d) (t : toPy d = some p) : Dp e.K H v p := by
  cases h with
  | st r => exact dp_of g d v p r t
  | ow h1 h2 =>
    unfold toPy at t
    obtain ⟨ps, t1, t2⟩ := Option.map_eq_some_iff.mp t
    subst t2
    exact .lst (SqL.of h1) (dps_of g _ _ ps h2 t1)
end
def eqD (neg : Bool) (d1 d2 : D) : Option Sl := match toPy d1, toPy d2 with
  | some a, some b => if (SeqAt.shaped a && SeqAt.shaped b) = true then blS (if neg then !PyData.eqv a b else PyData.eqv a b) else none
  | _, _ => none
theorem op_eqU (C : X.K = e.K) (hu : X.A.units + 64 < cLine) : OpR X (compareOp .Eq) (rEqD e.K) := by rw [← C]; exact op_eqD hu
theorem op_neU (C : X.K = e.K) (hu : X.A.units + 64 < cLine) : OpR X (compareOp .NotEq) (rNeD e.K) := by rw [← C]; exact op_neD hu
theorem og_eq : OpG e (rEqD e.K) (eqD false) := by
  intro G H x y d1 d2 s Q g h1 h2 hs q
  unfold eqD at hs
  cases q1 : toPy d1 with
  | none => simp only [q1] at hs; cases hs
  | some a =>
    cases q2 : toPy d2 with
    | none => simp only [q1, q2] at hs; cases hs
    | some b =>
      simp only [q1, q2] at hs
      by_cases c : (SeqAt.shaped a && SeqAt.shaped b) = true
      · rw [if_pos c] at hs
        cases hs
        obtain ⟨c1, c2⟩ := Bool.and_eq_true_iff.mp c
        exact ⟨a, b, dp_co g h1 q1, dp_co g h2 q2, c1, c2, q G H _ (Gr.refl g) (.bl _)⟩
      · rw [if_neg c] at hs
        cases hs
theorem og_ne : OpG e (rNeD e.K) (eqD true) := by
  intro G H x y d1 d2 s Q g h1 h2 hs q
  unfold eqD at hs
  cases q1 : toPy d1 with
  | none => simp only [q1] at hs; cases hs
  | some a =>
    cases q2 : toPy d2 with
    | none => simp only [q1, q2] at hs; cases hs
    | some b =>
      simp only [q1, q2] at hs
      by_cases c : (SeqAt.shaped a && SeqAt.shaped b) = true
      · rw [if_pos c] at hs
        cases hs
        obtain ⟨c1, c2⟩ := Bool.and_eq_true_iff.mp c
        exact ⟨a, b, dp_co g h1 q1, dp_co g h2 q2, c1, c2, q G H _ (Gr.refl g) (.bl _)⟩
      · rw [if_neg c] at hs
        cases hs
/-! ### is None -/
def isN (neg : Bool) (d1 d2 : D) : Option Sl := match d2 with
  | .non => (match d1 with
    | .non => blS (!neg)
    | _ => blS neg)
  | _ => none
theorem co_non {G H : Hp} {v : V} {d : D} (h : CoR e G H v d) : decide (v = .non) = (match d with | .non => true | _ => false) := by
  cases h with
  | st r => cases r <;> rfl
  | ow h1 h2 => rfl
theorem og_is : OpG e (fun x y H Q => y = .non ∧ Q (.bl (decide (x = .non))) H) (isN false) := by
  intro G H x y d1 d2 s Q g h1 h2 hs q
  cases d2 with
  | non =>
    refine ⟨h2.non, ?_⟩
    rw [co_non h1]
    cases d1 <;> (cases hs; exact q G H _ (Gr.refl g) (.bl _))
  | _ => cases hs
theorem og_isnot : OpG e (fun x y H Q => y = .non ∧ Q (.bl (!decide (x = .non))) H) (isN true) := by
  intro G H x y d1 d2 s Q g h1 h2 hs q
  cases d2 with
  | non =>
    refine ⟨h2.non, ?_⟩
    rw [co_non h1]
    cases d1 <;> (cases hs; exact q G H _ (Gr.refl g) (.bl _))
  | _ => cases hs
/-! ### in, not in -/
def flatD : D → Option V
  | .non => some .non
  | .bl b => some (.bl b)
  | .int i => some (.int i)
  | .str s => some (.str s)
  | _ => none
def flatsD : List D → Option (List V)
  | [] => some []
  | d :: ds => match flatD d, flatsD ds with
    | some v, some vs => some (v :: vs)
    | _, _ => none
theorem flat_of {G : Hp} {v w : V} {d : D} (h : DR e G v d) (f : flatD d = some w) : v = w ∧ flatV v = true := by
  cases h <;> cases f <;> exact ⟨rfl, rfl⟩
theorem flats_of {G : Hp} : ∀ {vs ws : List V} {ds : List D}, DRs e G vs ds → flatsD ds = some ws → vs = ws ∧ vs.all flatV = true
  | _, _, _, .nil, f => by cases f; exact ⟨rfl, rfl⟩
  | _, _, _, @DRs.cons _ _ v vs d ds h1 h2, f => by
    unfold flatsD at f
    cases q1 : flatD d with
    | none => simp only [q1] at f; cases f
    | some w =>
      cases q2 : flatsD ds with
      | none => simp only [q1, q2] at f; cases f
      | some ws =>
        simp only [q1, q2] at f
        cases f
        obtain ⟨rfl, e1⟩ := flat_of h1 q1
        obtain ⟨rfl, e2⟩ := flats_of h2 q2
        exact ⟨rfl, by rw [List.all_cons, e1, e2]; rfl⟩
def inSeq (neg : Bool) (d : D) (ds : List D) : Option Sl := match flatD d, flatsD ds with
  | some v, some vs => blS (if neg then !inV v vs else inV v vs)
  | _, _ => none
def inStr (neg : Bool) (a b : Str) : Option Sl := match a.cps.toList with
  | [c] => blS (if neg then !decide (c ∈ b.cps.toList) else decide (c ∈ b.cps.toList))
  | _ => blS (if neg then !(!(Builtin.Str.occurrences b a 0 b.length 1).isEmpty) else !(Builtin.Str.occurrences b a 0 b.length 1).isEmpty)
def inD (neg : Bool) : D → D → Option Sl
  | .str a, .str b => inStr neg a b
  | d, .lst ds => inSeq neg d ds
  | d, .tup ds => inSeq neg d ds
  | _, _ => none
def rInU (K : PySem.W.Frag) (neg : Bool) : R2 := ror (rIn K neg) (ror (fun x y H Q => ∃ (c : Nat) (z : Str), x = .str ⟨#[c]⟩ ∧ y = .str z ∧ Q (.bl (if neg then !decide (c ∈ z.cps.toList) else decide (c ∈ z.cps.toList))) H)
  (fun x y H Q => ∃ i j, x = .str i ∧ y = .str j ∧ Q (.bl (if neg then !(!(Builtin.Str.occurrences j i 0 j.length 1).isEmpty) else !(Builtin.Str.occurrences j i 0 j.length 1).isEmpty)) H))
theorem op_inU (C : X.K = e.K) : OpR X (compareOp .In) (rInU e.K false) := opr_or (by rw [← C]; exact op_in_seq) (opr_or op_in_sign op_in_str)
theorem op_notInU (C : X.K = e.K) : OpR X (compareOp .NotIn) (rInU e.K true) := opr_or (by rw [← C]; exact op_notIn_seq) (opr_or op_notIn_sign op_notIn_str)
theorem str_one {a : Str} {c : Nat} (h : a.cps.toList = [c]) : a = ⟨#[c]⟩ := by
  obtain ⟨x⟩ := a
  congr 1
  exact Array.toList_inj.mp h
theorem flatD_lst {d : D} {v : V} (f : flatD d = some v) : ∀ xs, d ≠ .lst xs := fun xs z => by subst z; cases f
theorem in_seq_co {neg : Bool} {G H : Hp} {x y : V} {d : D} {ds : List D} {s : Sl} {Q : VK} {b : Addr} {ws : List V} (g : L2.Same G H) (h1 : CoR e G H x d) (ey : y = .ref b) (k1 : SqL e.K H b ws ∨ SqT e.K H b ws) (k2 : DRs e G ws ds)
    (hs : inSeq neg d ds = some s) (q : ∀ G' H' v, Gr G H G' H' → New e H G' H' v s → Q v H') : rIn e.K neg x y H Q := by
  unfold inSeq at hs
  cases q1 : flatD d with
  | none => simp only [q1] at hs; cases hs
  | some v =>
    cases q2 : flatsD ds with
    | none => simp only [q1, q2] at hs; cases hs
    | some vs =>
      simp only [q1, q2] at hs
      cases hs
      obtain ⟨rfl, e1⟩ := flat_of (h1.dr (flatD_lst q1)) q1
      obtain ⟨rfl, e2⟩ := flats_of k2 q2
      exact ⟨b, _, ey, k1, e1, e2, q G H _ (Gr.refl g) (.bl _)⟩
theorem og_in {neg : Bool} : OpG e (rInU e.K neg) (inD neg) := by
  intro G H x y d1 d2 s Q g h1 h2 hs q
  cases d2 with
  | lst ds =>
    obtain ⟨b, ws, ey, k1, k2⟩ := h2.lst g
    refine .inl (in_seq_co g h1 ey (.inl (SqL.of k1)) k2 (s := s) ?_ q)
    cases d1 <;> exact hs
  | tup ds =>
    obtain ⟨b, ws, ey, k1, k2⟩ := h2.tup g
    refine .inl (in_seq_co g h1 ey (.inr k1) k2 (s := s) ?_ q)
    cases d1 <;> exact hs
  | str z =>
    cases d1 with
    | str a =>
      cases h1.str
      cases h2.str
      have hs : inStr neg a z = some s := hs
      unfold inStr at hs
      split at hs
      · rename_i c hc
        cases hs
        refine .inr (.inl ⟨c, z, by rw [← str_one hc], rfl, q G H _ (Gr.refl g) (.bl _)⟩)
      · cases hs
        exact .inr (.inr ⟨a, z, rfl, rfl, q G H _ (Gr.refl g) (.bl _)⟩)
    | _ => cases hs
  | _ => cases d1 <;> cases hs
/-! ### subscripts -/
theorem DRs.atI {G : Hp} {vs : List V} {ds : List D} (h : DRs e G vs ds) {i : Int} {d : D} (a : L2.atI ds i = some d) : ∃ v, L2.atI vs i = some v ∧ DR e G v d := by
  unfold L2.atI at a ⊢
  rw [h.length]
  obtain ⟨j, h1, h2⟩ := Option.bind_eq_some_iff.mp a
  obtain ⟨v, h3, h4⟩ := h.get h2
  exact ⟨v, by rw [h1]; exact h3, h4⟩
def ixD : D → D → Option Sl
  | .lst xs, .int i => (L2.atI xs i).map .fz
  | .tup xs, .int i => (L2.atI xs i).map .fz
  | .scr ns, .int i => (L2.atI ns i).map fun n => .fz (.int n)
  | .str z, .int i => if z.length ≤ sizeLine then (L2.atI z.cps.toList i).map fun c => .fz (.str ⟨#[c]⟩) else none
  | _, _ => none
theorem atI_map {α β : Type} (f : α → β) (xs : List α) (i : Int) : L2.atI (xs.map f) i = (L2.atI xs i).map f := by
  unfold L2.atI
  rw [List.length_map]
  cases ixN xs.length i with
  | none => rfl
  | some j => simp
theorem og_ix : OpG e (rIx e.K) ixD := by
  intro G H x y d1 d2 s Q g h1 h2 hs q
  cases d2 with
  | int i =>
    cases h2.int
    cases d1 with
    | lst xs =>
      obtain ⟨b, ws, rfl, k1, k2⟩ := h1.lst g
      obtain ⟨d, h3, h4⟩ := Option.map_eq_some_iff.mp (show (L2.atI xs i).map Sl.fz = some s from hs)
      subst h4
      obtain ⟨v, h5, h6⟩ := k2.atI h3
      exact .inl ⟨b, ws, i, v, rfl, rfl, SqL.of k1, h5, q G H _ (Gr.refl g) h6⟩
    | tup xs =>
      obtain ⟨b, ws, rfl, k1, k2⟩ := h1.tup g
      obtain ⟨d, h3, h4⟩ := Option.map_eq_some_iff.mp (show (L2.atI xs i).map Sl.fz = some s from hs)
      subst h4
      obtain ⟨v, h5, h6⟩ := k2.atI h3
      exact .inr (.inl ⟨b, ws, i, v, rfl, rfl, k1, h5, q G H _ (Gr.refl g) h6⟩)
    | scr ns =>
      obtain ⟨b, rfl, k1⟩ := h1.scr g
      obtain ⟨n, h3, h4⟩ := Option.map_eq_some_iff.mp (show (L2.atI ns i).map (fun n => Sl.fz (.int n)) = some s from hs)
      subst h4
      exact .inl ⟨b, _, i, .int n, rfl, rfl, k1, by rw [atI_map, h3]; rfl, q G H _ (Gr.refl g) (.int _)⟩
    | str z =>
      cases h1.str
      simp only [ixD] at hs
      by_cases c : z.length ≤ sizeLine
      · rw [if_pos c] at hs
        obtain ⟨n, h3, h4⟩ := Option.map_eq_some_iff.mp hs
        subst h4
        exact .inr (.inr ⟨z, i, n, rfl, rfl, c, h3, q G H _ (Gr.refl g) (.str _)⟩)
      · rw [if_neg c] at hs
        cases hs
    | _ => cases hs
  | _ => cases d1 <;> cases hs
theorem xx_ix {a b : Expr} {W : WX} {fa fb : Mo Ar} {pos : Pos} (C : X.K = e.K) (ha : PE X a (tO e W fa)) (hb : PE X b (tO e W fb)) (hs : PlainIx b) : PE X (.Subscript a b pos) (tX e W (binX ixD fa fb)) :=
  (pe_ix ix_seq ha hb hs).imp fun _ _ _ h => by rw [C]; exact bin_core og_ix h
/-! ### slices -/
def ORl : RlT (Option Int) (Option Int) := fun _ _ _ _ _ _ v a => v = a
def ptO (f : Mo Ar) : Mo (Option Int) := Mo.bind f fun a ρ => match con ρ a with
  | some (.int i) => .ok ρ (some i)
  | _ => .bad
def noO : Mo (Option Int) := fun ρ => .ok ρ none
theorem _root_.L2.PO.imp {ex : Option Expr} {t t' : TO} (h : PO X ex t) (i : ∀ σ H Q, t' σ H Q → t σ H Q) : PO X ex t' := ⟨fun pins s σ H Q I w => h.run pins s σ H Q I (i σ H Q w)⟩
theorem xp_none {W : WX} : PO X none (tG e W ORl noO) := po_none.imp fun σ H Q ⟨Fo, G, ρ, R, p⟩ => Post.here (v := none) R p rfl
theorem xp_some {W : WX} {a : Expr} {fa : Mo Ar} (h : PE X a (tO e W fa)) : PO X (some a) (tG e W ORl (ptO fa)) := (po_some h).imp fun σ H Q ⟨Fo, G, ρ, R, p⟩ => by
  refine tG.mono (Post.bind R p) fun x H1 ⟨G1, ρ1, a1, g1, R1, r1, p1⟩ => ?_
  cases q1 : con ρ1 a1 with
  | none => simp only [q1] at p1; exact p1.elim
  | some d =>
    simp only [q1] at p1
    cases d with
    | int i => exact ⟨i, (r1.co R1 q1).int, Post.here (v := some i) R1 p1 rfl⟩
    | _ => exact p1.elim
def cutD {α : Type} (xs : List α) (lo hi : Option Int) : List α := (xs.drop (HT.sIx xs.length 0 lo)).take (HT.sIx xs.length xs.length hi - HT.sIx xs.length 0 lo)
theorem DRs.cut {G : Hp} {vs : List V} {ds : List D} (h : DRs e G vs ds) (lo hi : Option Int) : DRs e G (cutV vs lo hi) (cutD ds lo hi) := by
  unfold cutV cutD
  rw [h.length]
  exact (h.drop _).take _
def slD (lo hi : Option Int) : D → Option Sl
  | .lst xs => some (.ow false (cutD xs lo hi))
  | .tup xs => some (.fz (.tup (cutD xs lo hi)))
  | .scr ns => some (.ow false (cutD (ns.map D.int) lo hi))
  | .str z => if z.length ≤ sizeLine then some (.fz (.str (cutS z lo hi))) else none
  | _ => none
def slX (f : Mo Ar) (lo hi : Mo (Option Int)) : Mo Sl := Mo.bind f fun a => Mo.bind lo fun l => Mo.bind hi fun u ρ => match con ρ a with
  | some d => retO ρ (slD l u d)
  | none => .bad
def rSlU (K : PySem.W.Frag) : V → Option Int → Option Int → Hp → VK → Prop := fun x lo hi H Q => rSlL K x lo hi H Q ∨ (rSlA K x lo hi H Q ∨ rSlS x lo hi H Q)
theorem sl_any : L2.SlR X (rSlU X.K) := sl_list.or (sl_tupA.or sl_str)
theorem cut_whole {G : Hp} {vs : List V} {ds : List D} {lo hi : Option Int} (h : DRs e G vs ds) (hw : HT.sIx vs.length 0 lo = 0 ∧ HT.sIx vs.length vs.length hi = vs.length) : cutD ds lo hi = ds := by
  unfold cutD
  rw [← h.length, hw.1, hw.2, List.drop_zero, Nat.sub_zero, h.length, List.take_length]
theorem xx_sl {a : Expr} {lo hi : Option Expr} {W : WX} {fa : Mo Ar} {fl fh : Mo (Option Int)} {pos p2 : Pos} (C : X.K = e.K) (ha : PE X a (tO e W fa)) (hl : PO X lo (tG e W ORl fl)) (hh : PO X hi (tG e W ORl fh)) : PE X (.Subscript a (.Slice lo hi none p2) pos) (tX e W (slX fa fl fh)) :=
  (pe_slice sl_any ha hl hh).imp fun σ H Q ⟨Fo, G, ρ, R, p⟩ => by
    refine tG.mono (Post.bind R p) fun x H1 ⟨G1, ρ1, a1, g1, R1, r1, p1⟩ => ?_
    refine tG.mono (Post.bind R1 p1) fun l H2 ⟨G2, ρ2, l2, g2, R2, r2, p2⟩ => ?_
    refine tG.mono (Post.bind R2 p2) fun u H3 ⟨G3, ρ3, u3, g3, R3, r3, p3⟩ => ?_
    cases (show l = l2 from r2)
    cases (show u = u3 from r3)
    rw [C]
    cases q1 : con ρ3 a1 with
    | none => simp only [q1] at p3; exact p3.elim
    | some d =>
      simp only [q1] at p3
      have h := (r1.mono (g2.trans g3) : ArR e Fo G3 σ H3 ρ3 x a1).co R3 q1
      have g := R3.gh
      cases d with
      | lst xs =>
        obtain ⟨b, ws, rfl, k1, k2⟩ := h.lst g
        refine .inl ⟨b, ws, rfl, SqL.of k1, fun p np => ?_⟩
        have := Gr.new_lst g np (k2.cut l u)
        exact p3.new R3 this.1 this.2
      | scr ns =>
        obtain ⟨b, rfl, k1⟩ := h.scr g
        refine .inl ⟨b, _, rfl, k1, fun p np => ?_⟩
        have := Gr.new_lst g np ((DRs.of_ints ns : DRs e G3 _ _).cut l u)
        exact p3.new R3 this.1 this.2
      | tup xs =>
        obtain ⟨b, ws, ex, k1, k2⟩ := h.tup g
        have dr : DR e G3 x (.tup xs) := h.dr fun _ z => nomatch z
        subst ex
        refine .inr (.inl ⟨b, ws, rfl, k1, fun hw => ?_, fun _ p np => ?_⟩)
        · have p4 : Post e W (fun e Fo G σ H ρ v s => Val e Fo G σ H ρ v s) Fo G3 σ ρ3 (.ok ρ3 (.fz (.tup (cutD xs l u)))) Q := p3
          rw [cut_whole k2 hw] at p4
          exact p4.here R3 (.fz dr)
        · have := Gr.new_tup g np (k2.cut l u)
          exact p3.new R3 this.1 this.2
      | str z =>
        cases h.str
        simp only [slD] at p3
        by_cases c : z.length ≤ sizeLine
        · simp only [if_pos c, retO] at p3
          exact .inr (.inr ⟨z, rfl, c, p3.here R3 (.fz (.str _))⟩)
        · simp only [if_neg c, retO] at p3
          exact p3.elim
      | _ => exact p3.elim
end
end L2.WD
/-! The data layer, part 7: displays, calls of built-ins, methods of lists and texts, stores to a list. -/
namespace L2.WD
open PySem PySem.Spec PyProof.Rows

/-! ### things one behind another -/
def DRsL : RlT (List D) (List V) := fun e _ G _ _ _ vs ds => DRs e G vs ds
abbrev tAD (e : Ev) (W : WX) (f : Mo (List D)) : TA := tG e W DRsL f
def nilD : Mo (List D) := fun ρ => .ok ρ []
def consD (f : Mo D) (g : Mo (List D)) : Mo (List D) := Mo.bind f fun a => Mo.bind g fun as ρ => .ok ρ (a :: as)
/-- an operand that stays -/
def valD (f : Mo Ar) : Mo D := Mo.bind f fun a ρ => match a with
  | .vl d => .ok ρ d
  | .sl i => match ρ[i]? with
    | some (.fz d) => .ok ρ d
    | _ => .bad
def tupX (f : Mo (List D)) : Mo Sl := Mo.bind f fun ds ρ => if ds.length ≤ sizeLine then .ok ρ (.fz (.tup ds)) else .bad
def lstX (f : Mo (List D)) : Mo Sl := Mo.bind f fun ds ρ => if ds.length ≤ sizeLine then .ok ρ (.ow false ds) else .bad
section
variable {X : Cx} {e : Ev} {W : WX} {a b c : Expr} {es : List Expr} {pos : Pos} {fa fb : Mo Ar}
theorem xd_op (h : PE X a (tO e W fa)) : PE X a (tD e W (valD fa)) := h.imp fun σ H Q ⟨Fo, G, ρ, R, p⟩ => by
  refine tG.mono (Post.bind R p) fun v H1 ⟨G1, ρ1, a, g1, R1, r1, p1⟩ => ?_
  cases a with
  | vl d => exact Post.here (Rl := DRl) R1 p1 r1
  | sl i =>
    have hs : σ[i]? = some (some v) := r1
    cases q : ρ1[i]? with
    | none => simp only [q] at p1; exact p1.elim
    | some s =>
      simp only [q] at p1
      cases s with
      | fz d =>
        obtain ⟨o, h1, h2⟩ := R1.get q
        rw [hs] at h1
        cases h1
        cases h2 with
        | fz r => exact Post.here (Rl := DRl) R1 p1 r
        | own r => cases r
      | no => exact p1.elim
      | ow m xs => exact p1.elim
      | oo m c fs => exact p1.elim
theorem xad_nil : PA X [] (tAD e W nilD) := pa_nil.imp fun σ H Q ⟨Fo, G, ρ, R, p⟩ => p.here R .nil
theorem xad_cons {x : Expr} {f : Mo D} {g : Mo (List D)} (h1 : PE X x (tD e W f)) (h2 : PA X es (tAD e W g)) (hs : starEach (x :: es) X.env = (false, eval x X.env) :: starEach es X.env := by rfl) : PA X (x :: es) (tAD e W (consD f g)) :=
  (pa_cons h1 h2 hs).imp fun σ H Q ⟨Fo, G0, ρ, R, p⟩ => by
    refine tG.mono (Post.bind R p) fun x H1 ⟨G1, ρ1, a1, g1, R1, r1, p1⟩ => ?_
    refine tG.mono (Post.bind R1 p1) fun y H2 ⟨G2, ρ2, a2, g2, R2, r2, p2⟩ => ?_
    exact p2.here R2 (.cons (DR.mono g2 r1) r2)
theorem xx_tup {k : Nat} {f : Mo (List D)} (h : PA X es (tAD e W f)) : PE X (.Tuple es k pos) (tX e W (tupX f)) := (pe_tup h).imp fun σ H Q ⟨Fo, G0, ρ, R, p⟩ => by
  refine tG.mono (Post.bind R p) fun xs H1 ⟨G1, ρ1, ds, g1, R1, r1, p1⟩ => ?_
  by_cases c : ds.length ≤ sizeLine
  · simp only [if_pos c] at p1
    refine ⟨by rw [DRs.length r1]; exact c, fun p np => ?_⟩
    have := Gr.new_tup R1.gh np r1
    exact p1.new R1 this.1 this.2
  · simp only [if_neg c] at p1
    exact p1.elim
theorem xx_lst {f : Mo (List D)} (h : PA X es (tAD e W f)) : PE X (.List es pos) (tX e W (lstX f)) := (pe_lst h).imp fun σ H Q ⟨Fo, G0, ρ, R, p⟩ => by
  refine tG.mono (Post.bind R p) fun xs H1 ⟨G1, ρ1, ds, g1, R1, r1, p1⟩ => ?_
  by_cases c : ds.length ≤ sizeLine
  · simp only [if_pos c] at p1
    refine ⟨by rw [DRs.length r1]; exact c, fun p np => ?_⟩
    have := Gr.new_lst R1.gh np r1
    exact p1.new R1 this.1 this.2
  · simp only [if_neg c] at p1
    exact p1.elim

/-! ### calls of built-ins -/
theorem xx_callB {x : Str} {id : String} {r : List V → Hp → VK → Prop} {g : List D → Option Sl} {f : Mo (List Ar)} {p : Pos} (hc : CallR X (.builtin id) r) (hgr : CaG e r g) (hg : Gl X x) (hm : X.mg x = none) (hv : bootBuiltins x = some (.builtin id)) (ha : PA X (a :: es) (tA e W f))
    (hn : x ≠ "__name__" := by decide) (hd : (x == ("__debug__" : Str)) = false := by decide) (hs : starEach (a :: es) X.env = (false, eval a X.env) :: starEach es X.env := by rfl) (hpl : (backTo pos (starEach es X.env)).any (·.1) = false := by rfl) : PE X (.Call (.Name x p) (a :: es) [] pos) (tX e W (caX g f)) :=
  (pe_callB hc hg hm hv ha hn hd hs hpl).imp fun _ _ _ h => ca_core hgr h
theorem xx_callTy {x : Str} {T : String} {r : List V → Hp → VK → Prop} {g : List D → Option Sl} {f : Mo (List Ar)} {p : Pos} (hc : CallR X (.type T) r) (hgr : CaG e r g) (hg : Gl X x) (hm : X.mg x = none) (hv : bootBuiltins x = some (.type T)) (ha : PA X (a :: es) (tA e W f))
    (hn : x ≠ "__name__" := by decide) (hd : (x == ("__debug__" : Str)) = false := by decide) (hs : starEach (a :: es) X.env = (false, eval a X.env) :: starEach es X.env := by rfl) (hpl : (backTo pos (starEach es X.env)).any (·.1) = false := by rfl) : PE X (.Call (.Name x p) (a :: es) [] pos) (tX e W (caX g f)) :=
  (pe_callTy hc hg hm hv ha hn hd hs hpl).imp fun _ _ _ h => ca_core hgr h
end
section
variable {X : Cx} {e : Ev}
theorem CoRs.one {G H : Hp} {xs : List V} {d : D} (h : CoRs e G H xs [d]) : ∃ v, xs = [v] ∧ CoR e G H v d := by
  cases h with
  | cons a b =>
    cases b
    exact ⟨_, rfl, a⟩
theorem CoRs.two {G H : Hp} {xs : List V} {d d2 : D} (h : CoRs e G H xs [d, d2]) : ∃ v w, xs = [v, w] ∧ CoR e G H v d ∧ CoR e G H w d2 := by
  cases h with
  | cons a b =>
    obtain ⟨w, rfl, b'⟩ := b.one
    exact ⟨_, _, rfl, a, b'⟩
/-- a function of one thing -/
def one (f : D → Option Sl) : List D → Option Sl
  | [d] => f d
  | _ => none
def two (f : D → D → Option Sl) : List D → Option Sl
  | [d, d2] => f d d2
  | _ => none
theorem ca_one {r : List V → Hp → VK → Prop} {f : D → Option Sl} (h : ∀ (G H : Hp) (v : V) (d : D) (s : Sl) (Q : VK), L2.Same G H → CoR e G H v d → f d = some s → (∀ G' H' v, Gr G H G' H' → New e H G' H' v s → Q v H') → r [v] H Q) : CaG e r (one f) := by
  intro G H xs ds s Q g hx hs q
  cases hx with
  | nil => cases hs
  | cons a b =>
    cases b with
    | nil => exact h G H _ _ s Q g a hs q
    | cons _ _ => cases hs
theorem ca_two {r : List V → Hp → VK → Prop} {f : D → D → Option Sl} (h : ∀ (G H : Hp) (v w : V) (d d2 : D) (s : Sl) (Q : VK), L2.Same G H → CoR e G H v d → CoR e G H w d2 → f d d2 = some s → (∀ G' H' v, Gr G H G' H' → New e H G' H' v s → Q v H') → r [v, w] H Q) : CaG e r (two f) := by
  intro G H xs ds s Q g hx hs q
  cases hx with
  | nil => cases hs
  | cons a b =>
    cases b with
    | nil => cases hs
    | cons a2 b2 =>
      cases b2 with
      | nil => exact h G H _ _ _ _ s Q g a a2 hs q
      | cons _ _ => cases hs
def intS (i : Int) : Option Sl := some (.fz (.int i))
/-- len -/
def lenD : D → Option Sl
  | .lst xs => intS xs.length
  | .tup xs => intS xs.length
  | .scr xs => intS xs.length
  | .str s => if s.length ≤ sizeLine then intS s.length else none
  | _ => none
def rLenU (K : PySem.W.Frag) : List V → Hp → VK → Prop := fun xs H Q => ∃ x n, xs = [x] ∧ LenV K x H n ∧ Q (.int n) H
theorem call_lenU (C : X.K = e.K) : CallR X (.builtin "len") (rLenU e.K) := by rw [← C]; exact call_len
theorem cg_len : CaG e (rLenU e.K) (one lenD) := ca_one fun G H v d s Q g h hs q => by
  cases d with
  | lst xs =>
    obtain ⟨b, ws, rfl, k1, k2⟩ := h.lst g
    cases hs
    exact ⟨_, xs.length, rfl, .inl ⟨ws, SqL.of k1, k2.length.symm⟩, q G H _ (Gr.refl g) (.int _)⟩
  | tup xs =>
    obtain ⟨b, ws, rfl, k1, k2⟩ := h.tup g
    cases hs
    exact ⟨_, xs.length, rfl, .inr ⟨ws, k1, k2.length.symm⟩, q G H _ (Gr.refl g) (.int _)⟩
  | scr xs =>
    obtain ⟨b, rfl, k1⟩ := h.scr g
    cases hs
    exact ⟨_, xs.length, rfl, .inl ⟨_, k1, by simp⟩, q G H _ (Gr.refl g) (.int _)⟩
  | str z =>
    cases h.str
    simp only [lenD] at hs
    by_cases c : z.length ≤ sizeLine
    · rw [if_pos c] at hs
      cases hs
      exact ⟨_, z.length, rfl, ⟨c, rfl⟩, q G H _ (Gr.refl g) (.int _)⟩
    · rw [if_neg c] at hs
      cases hs
  | _ => cases hs
/-- lists of whole numbers, of truths, of texts -/
def intsD : List D → Option (List Int)
  | [] => some []
  | .int i :: ds => (intsD ds).map (i :: ·)
  | _ :: _ => none
theorem intsD_eq : ∀ {ds : List D} {ns : List Int}, intsD ds = some ns → ds = ns.map D.int
  | [], _, h => by cases h; rfl
  | d :: ds, ns, h => by
    cases d with
    | int i =>
      obtain ⟨ms, h1, h2⟩ := Option.map_eq_some_iff.mp (show (intsD ds).map (i :: ·) = some ns from h)
      rw [← h2, intsD_eq h1]
      rfl
    | _ => cases h
theorem intsD_map : ∀ ns : List Int, intsD (ns.map D.int) = some ns
  | [] => rfl
  | n :: ns => by show (intsD (ns.map D.int)).map (n :: ·) = _; rw [intsD_map ns]; rfl
def blsD : List D → Option (List Bool)
  | [] => some []
  | .bl i :: ds => (blsD ds).map (i :: ·)
  | _ :: _ => none
theorem blsD_eq : ∀ {ds : List D} {ns : List Bool}, blsD ds = some ns → ds = ns.map D.bl
  | [], _, h => by cases h; rfl
  | d :: ds, ns, h => by
    cases d with
    | bl i =>
      obtain ⟨ms, h1, h2⟩ := Option.map_eq_some_iff.mp (show (blsD ds).map (i :: ·) = some ns from h)
      rw [← h2, blsD_eq h1]
      rfl
    | _ => cases h
theorem blsD_map : ∀ ns : List Bool, blsD (ns.map D.bl) = some ns
  | [] => rfl
  | n :: ns => by show (blsD (ns.map D.bl)).map (n :: ·) = _; rw [blsD_map ns]; rfl
def strsD : List D → Option (List Str)
  | [] => some []
  | .str i :: ds => (strsD ds).map (i :: ·)
  | _ :: _ => none
theorem strsD_eq : ∀ {ds : List D} {ns : List Str}, strsD ds = some ns → ds = ns.map D.str
  | [], _, h => by cases h; rfl
  | d :: ds, ns, h => by
    cases d with
    | str i =>
      obtain ⟨ms, h1, h2⟩ := Option.map_eq_some_iff.mp (show (strsD ds).map (i :: ·) = some ns from h)
      rw [← h2, strsD_eq h1]
      rfl
    | _ => cases h
theorem strsD_map : ∀ ns : List Str, strsD (ns.map D.str) = some ns
  | [] => rfl
  | n :: ns => by show (strsD (ns.map D.str)).map (n :: ·) = _; rw [strsD_map ns]; rfl
/-- sum, all, any -/
def sumD : D → Option Sl
  | .lst xs => (intsD xs).bind fun ns => intS ns.sum
  | .scr ns => intS ns.sum
  | _ => none
theorem call_sumU (C : X.K = e.K) (hc : X.calm = true) : CallR X (.builtin "sum") (rSum e.K) := by rw [← C]; exact cr_sum hc
theorem cg_sum : CaG e (rSum e.K) (one sumD) := ca_one fun G H v d s Q g h hs q => by
  cases d with
  | lst xs =>
    obtain ⟨b, ws, rfl, k1, k2⟩ := h.lst g
    obtain ⟨ns, h1, h2⟩ := Option.bind_eq_some_iff.mp (show (intsD xs).bind (fun ns => intS ns.sum) = some s from hs)
    cases h2
    rw [intsD_eq h1] at k2
    rw [k2.ints] at k1
    exact ⟨b, ns, rfl, SqL.of k1, q G H _ (Gr.refl g) (.int _)⟩
  | scr ns =>
    obtain ⟨b, rfl, k1⟩ := h.scr g
    cases hs
    exact ⟨b, ns, rfl, k1, q G H _ (Gr.refl g) (.int _)⟩
  | _ => cases hs
def allD (f : List Bool → Bool) : D → Option Sl
  | .lst xs => (blsD xs).bind fun ns => blS (f ns)
  | _ => none
theorem call_allU (C : X.K = e.K) (hc : X.calm = true) : CallR X (.builtin "all") (rAll e.K) := by rw [← C]; exact cr_all hc
theorem call_anyU (C : X.K = e.K) (hc : X.calm = true) : CallR X (.builtin "any") (rAny e.K) := by rw [← C]; exact cr_any hc
theorem cg_all : CaG e (rAll e.K) (one (allD fun bs => bs.all id)) := ca_one fun G H v d s Q g h hs q => by
  cases d with
  | lst xs =>
    obtain ⟨b, ws, rfl, k1, k2⟩ := h.lst g
    obtain ⟨ns, h1, h2⟩ := Option.bind_eq_some_iff.mp (show (blsD xs).bind (fun ns => blS (ns.all id)) = some s from hs)
    cases h2
    rw [blsD_eq h1] at k2
    rw [k2.bls] at k1
    exact ⟨b, ns, rfl, SqL.of k1, q G H _ (Gr.refl g) (.bl _)⟩
  | _ => cases hs
theorem cg_any : CaG e (rAny e.K) (one (allD fun bs => bs.any id)) := ca_one fun G H v d s Q g h hs q => by
  cases d with
  | lst xs =>
    obtain ⟨b, ws, rfl, k1, k2⟩ := h.lst g
    obtain ⟨ns, h1, h2⟩ := Option.bind_eq_some_iff.mp (show (blsD xs).bind (fun ns => blS (ns.any id)) = some s from hs)
    cases h2
    rw [blsD_eq h1] at k2
    rw [k2.bls] at k1
    exact ⟨b, ns, rfl, SqL.of k1, q G H _ (Gr.refl g) (.bl _)⟩
  | _ => cases hs
/-- abs, max, min, int, str of a number, divmod -/
def absD : D → Option Sl
  | .int i => intS (if i < 0 then -i else i)
  | _ => none
theorem cg_abs : CaG e (fun xs H Q => ∃ i, xs = [.int i] ∧ Q (.int (if i < 0 then -i else i)) H) (one absD) := ca_one fun G H v d s Q g h hs q => by
  cases d with
  | int i =>
    cases h.int
    cases hs
    exact ⟨i, rfl, q G H _ (Gr.refl g) (.int _)⟩
  | _ => cases hs
def int2D (f : Int → Int → Int) : D → D → Option Sl
  | .int i, .int j => intS (f i j)
  | _, _ => none
theorem cg_int2 {f : Int → Int → Int} : CaG e (fun xs H Q => ∃ i j, xs = [.int i, .int j] ∧ Q (.int (f i j)) H) (two (int2D f)) := ca_two fun G H v w d d2 s Q g h h2 hs q => by
  cases d with
  | int i =>
    cases d2 with
    | int j =>
      cases h.int
      cases h2.int
      cases hs
      exact ⟨i, j, rfl, q G H _ (Gr.refl g) (.int _)⟩
    | _ => cases hs
  | _ => cases d2 <;> cases hs
def maxD : D → D → Option Sl := int2D fun i j => if j > i then j else i
def minD : D → D → Option Sl := int2D fun i j => if j < i then j else i
def int1D : D → Option Sl
  | .int i => intS i
  | .bl k => intS (if k then 1 else 0)
  | _ => none
theorem cg_int1 : CaG e (fun xs H Q => (∃ i, xs = [.int i] ∧ Q (.int i) H) ∨ ∃ k, xs = [.bl k] ∧ Q (.int (if k then 1 else 0)) H) (one int1D) := ca_one fun G H v d s Q g h hs q => by
  cases d with
  | int i =>
    cases h.int
    cases hs
    exact .inl ⟨i, rfl, q G H _ (Gr.refl g) (.int _)⟩
  | bl k =>
    cases h.bl
    cases hs
    exact .inr ⟨k, rfl, q G H _ (Gr.refl g) (.int _)⟩
  | _ => cases hs
def strID : D → Option Sl
  | .int i => if i.natAbs.log2 < 1920 then some (.fz (.str (toString i))) else none
  | _ => none
theorem cg_strI : CaG e (fun xs H Q => ∃ i, xs = [.int i] ∧ i.natAbs.log2 < 1920 ∧ Q (.str (toString i)) H) (one strID) := ca_one fun G H v d s Q g h hs q => by
  cases d with
  | int i =>
    cases h.int
    simp only [strID] at hs
    by_cases c : i.natAbs.log2 < 1920
    · rw [if_pos c] at hs
      cases hs
      exact ⟨i, rfl, c, q G H _ (Gr.refl g) (.str _)⟩
    · rw [if_neg c] at hs
      cases hs
  | _ => cases hs
def divmodD : D → D → Option Sl
  | .int i, .int j => if 0 < j ∧ j < 1073741824 then some (.fz (.tup [.int (i / j), .int (i % j)])) else none
  | _, _ => none
theorem cg_divmod : CaG e (fun xs H Q => ∃ i j, xs = [.int i, .int j] ∧ CDiv i j ∧ ∀ p, H p = none → Q (.ref p) (upd H p (.tup [.int (i / j), .int (i % j)]))) (two divmodD) := ca_two fun G H v w d d2 s Q g h h2 hs q => by
  cases d with
  | int i =>
    cases d2 with
    | int j =>
      cases h.int
      cases h2.int
      simp only [divmodD] at hs
      by_cases c : 0 < j ∧ j < 1073741824
      · rw [if_pos c] at hs
        cases hs
        refine ⟨i, j, rfl, c, fun p np => ?_⟩
        have := Gr.new_tup (e := e) g np (.cons (.int (i / j)) (.cons (.int (i % j)) .nil))
        exact q _ _ _ this.1 this.2
      · rw [if_neg c] at hs
        cases hs
    | _ => cases hs
  | _ => cases d2 <;> cases hs
/-- list(..), tuple(..) -/
def listD : D → Option Sl
  | .lst xs => some (.ow false xs)
  | .tup xs => some (.ow false xs)
  | .scr ns => some (.ow false (ns.map D.int))
  | _ => none
def rListOf (K : PySem.W.Frag) : List V → Hp → VK → Prop := fun xs H Q => ∃ p ys, xs = [.ref p] ∧ (SqL K H p ys ∨ SqT K H p ys) ∧ ∀ l, H l = none → Q (.ref l) (upd H l (.lst ys))
theorem call_listU (C : X.K = e.K) : CallR X (.type "list") (rListOf e.K) := by rw [← C]; exact call_list_of
theorem cg_list : CaG e (rListOf e.K) (one listD) := ca_one fun G H v d s Q g h hs q => by
  cases d with
  | lst xs =>
    obtain ⟨b, ws, rfl, k1, k2⟩ := h.lst g
    cases hs
    refine ⟨b, ws, rfl, .inl (SqL.of k1), fun l hl => ?_⟩
    have := Gr.new_lst g hl k2
    exact q _ _ _ this.1 this.2
  | tup xs =>
    obtain ⟨b, ws, rfl, k1, k2⟩ := h.tup g
    cases hs
    refine ⟨b, ws, rfl, .inr k1, fun l hl => ?_⟩
    have := Gr.new_lst g hl k2
    exact q _ _ _ this.1 this.2
  | scr ns =>
    obtain ⟨b, rfl, k1⟩ := h.scr g
    cases hs
    refine ⟨b, _, rfl, .inl k1, fun l hl => ?_⟩
    have := Gr.new_lst (e := e) g hl (DRs.of_ints ns)
    exact q _ _ _ this.1 this.2
  | _ => cases hs
def tupleD : D → Option Sl
  | .lst xs => some (.fz (.tup xs))
  | .tup xs => some (.fz (.tup xs))
  | .scr ns => some (.fz (.tup (ns.map D.int)))
  | _ => none
def rTupOf (K : PySem.W.Frag) : List V → Hp → VK → Prop := fun xs H Q => ∃ p ys, xs = [.ref p] ∧ ((SqL K H p ys ∧ ∀ l, H l = none → Q (.ref l) (upd H l (.tup ys))) ∨ (SqT K H p ys ∧ Q (.ref p) H))
theorem call_tupU (C : X.K = e.K) : CallR X (.type "tuple") (rTupOf e.K) := by rw [← C]; exact call_tuple_of
theorem cg_tuple : CaG e (rTupOf e.K) (one tupleD) := ca_one fun G H v d s Q g h hs q => by
  cases d with
  | lst xs =>
    obtain ⟨b, ws, rfl, k1, k2⟩ := h.lst g
    cases hs
    refine ⟨b, ws, rfl, .inl ⟨SqL.of k1, fun l hl => ?_⟩⟩
    have := Gr.new_tup g hl k2
    exact q _ _ _ this.1 this.2
  | tup xs =>
    have dr : DR e G v (.tup xs) := h.dr fun _ z => nomatch z
    obtain ⟨b, ws, rfl, k1, k2⟩ := h.tup g
    cases hs
    exact ⟨b, ws, rfl, .inr ⟨k1, q G H _ (Gr.refl g) dr⟩⟩
  | scr ns =>
    obtain ⟨b, rfl, k1⟩ := h.scr g
    cases hs
    refine ⟨b, _, rfl, .inl ⟨k1, fun l hl => ?_⟩⟩
    have := Gr.new_tup (e := e) g hl (DRs.of_ints ns)
    exact q _ _ _ this.1 this.2
  | _ => cases hs
end

/-! ### range, as what is walked -/
section
variable {X : Cx} {e : Ev} {W : WX} {tg a b : Expr} {pos p : Pos} {fa fb : Mo Ar}
def rngD (lo hi : Int) : List D := (List.range (hi - lo).toNat).map fun (i : Nat) => .int (lo + i)
theorem wk_rng {Fo G H : Hp} {σ : St} {ρ : List Sl} {lo hi : Int} : Wk e Fo G σ H ρ (Itr lo (hi - lo).toNat) (rngD lo hi) := by
  refine ⟨YFn fun i => .int (lo + i), ?_, fun i H x H' G1 g h1 hi' y => ?_⟩
  · unfold rngD
    rw [List.length_map, List.length_range]
    exact walk_range.mono (fun _ _ => trivial) fun i H x H' _ _ y => y
  · obtain ⟨rfl, y2⟩ := y
    unfold rngD at hi'
    rw [List.length_map, List.length_range] at hi'
    refine ⟨G1, .int (lo + i), ?_, Gr.refl h1, ?_⟩
    · unfold rngD
      rw [List.getElem?_map, List.getElem?_range hi']
      rfl
    · rw [y2]
      exact .int _
def rg1 (f : Mo Ar) : Mo (List D) := Mo.bind f fun a ρ => match con ρ a with
  | some (.int j) => if -(2 ^ 62) ≤ j ∧ j < 2 ^ 62 then .ok ρ (rngD 0 j) else .bad
  | _ => .bad
def rg2 (f g : Mo Ar) : Mo (List D) := Mo.bind f fun a => Mo.bind g fun b ρ => match con ρ a, con ρ b with
  | some (.int i), some (.int j) => if -(2 ^ 62) ≤ i ∧ i < 2 ^ 62 ∧ -(2 ^ 62) ≤ j ∧ j < 2 ^ 62 then .ok ρ (rngD i j) else .bad
  | _, _ => .bad
theorem xi_rg1 (hg : Gl X "range") (hm : X.mg "range" = none) (ha : PE X a (tO e W fa)) (hs : starEach [a] X.env = [(false, eval a X.env)] := by rfl) : PI X tg (.Call (.Name "range" p) [a] [] pos) (tI e W (rg1 fa)) :=
  (pi_range1 hg hm (pa_cons ha pa_nil hs) hs).imp fun σ H Q ⟨Fo, G, ρ, R, p⟩ => by
    refine tG.mono (Post.bind R p) fun v H1 ⟨G1, ρ1, a, g1, R1, r1, p1⟩ => ?_
    cases q1 : con ρ1 a with
    | none => simp only [q1] at p1; exact p1.elim
    | some d =>
      simp only [q1] at p1
      cases d with
      | int j =>
        simp only at p1
        by_cases c : -(2 ^ 62) ≤ j ∧ j < 2 ^ 62
        · rw [if_pos c] at p1
          refine ⟨j, by rw [(r1.co R1 q1).int], c.1, c.2, p1.here R1 ?_⟩
          have := wk_rng (e := e) (Fo := Fo) (G := G1) (H := H1) (σ := σ) (ρ := ρ1) (lo := 0) (hi := j)
          rw [Int.sub_zero] at this
          exact this
        · rw [if_neg c] at p1
          exact p1.elim
      | _ => exact p1.elim
theorem xi_rg2 (hg : Gl X "range") (hm : X.mg "range" = none) (ha : PE X a (tO e W fa)) (hb : PE X b (tO e W fb)) (hs : starEach [a, b] X.env = (false, eval a X.env) :: starEach [b] X.env := by rfl) (hs2 : starEach [b] X.env = [(false, eval b X.env)] := by rfl) (hs3 : starEach [a, b] X.env = [(false, eval a X.env), (false, eval b X.env)] := by rfl) : PI X tg (.Call (.Name "range" p) [a, b] [] pos) (tI e W (rg2 fa fb)) :=
  (pi_range2 hg hm (pa_cons ha (pa_cons hb pa_nil hs2) hs) hs3 hs2).imp fun σ H Q ⟨Fo, G, ρ, R, p⟩ => by
    refine tG.mono (Post.bind R p) fun v H1 ⟨G1, ρ1, a, g1, R1, r1, p1⟩ => ?_
    refine tG.mono (Post.bind R1 p1) fun w H2 ⟨G2, ρ2, b, g2, R2, r2, p2⟩ => ?_
    have r1' := (r1.mono g2 : ArR e Fo G2 σ H2 ρ2 v a)
    cases q1 : con ρ2 a with
    | none => simp only [q1] at p2; exact p2.elim
    | some d =>
      cases q2 : con ρ2 b with
      | none => simp only [q1, q2] at p2; exact p2.elim
      | some d2 =>
        simp only [q1, q2] at p2
        cases d with
        | int i =>
          cases d2 with
          | int j =>
            simp only at p2
            by_cases c : -(2 ^ 62) ≤ i ∧ i < 2 ^ 62 ∧ -(2 ^ 62) ≤ j ∧ j < 2 ^ 62
            · rw [if_pos c] at p2
              exact ⟨i, j, by rw [(r1'.co R2 q1).int, (r2.co R2 q2).int], c, p2.here R2 wk_rng⟩
            · rw [if_neg c] at p2
              exact p2.elim
          | _ => exact p2.elim
        | _ => cases d2 <;> exact p2.elim
end

/-! ### methods that change a list of one's own -/
section
variable {X : Cx} {e : Ev} {W : WX} {Fo G H : Hp} {σ : St} {ρ : List Sl}
theorem Rel.upd_own {i : Nat} {b : Addr} {m : Bool} {xs ys : List D} {ws' : List V} (R : Rel e Fo G σ H ρ) (h : ρ[i]? = some (.ow m xs)) (hv : σ[i]? = some (some (.ref b))) (r : DRs e G ws' ys) : Rel e Fo G σ (upd H b (.lst ws')) (ρ.set i (.ow m ys)) := by
  obtain ⟨o, h1, h2⟩ := R.get h
  rw [hv] at h1
  cases h1
  cases h2 with
  | own q =>
    cases q with
    | @ow _ vs _ k1 k2 k3 k4 =>
      have il : i < ρ.length := by
        by_cases z : i < ρ.length
        · exact z
        · rw [List.getElem?_eq_none (by omega)] at h
          cases h
      refine ⟨fun c o z => ?_, fun c o z => ?_, R.fg, .of_get (by rw [List.length_set, R.len]) fun j o s j1 j2 => ?_, fun j k c s t j1 j2 o1 o2 e1 e2 => ?_⟩
      · rw [upd_ne (ne_of_none z k3)]
        exact R.gh _ _ z
      · rw [upd_ne (ne_of_none z k4)]
        exact R.fh _ _ z
      · by_cases hj : j = i
        · subst hj
          rw [List.getElem?_set_self il] at j2
          cases j2
          rw [hv] at j1
          cases j1
          exact .own (.ow upd_same r k3 k4)
        · rw [List.getElem?_set_ne (Ne.symm hj)] at j2
          obtain ⟨o', e1, q⟩ := R.get j2
          rw [j1] at e1
          cases e1
          cases q with
          | no => exact .no
          | fz r => exact .fz r
          | @own b' _ q =>
            have ho := q.at.2.2.2
            have nb : b' ≠ b := fun z => hj (R.ap j i b' s (.ow m xs) j2 h ho rfl j1 (by rw [z]; exact hv))
            cases q with
            | ow l1 l2 l3 l4 => exact .own (.ow (by rw [upd_ne nb]; exact l1) l2 l3 l4)
            | @oo _ _ dx _ _ l1 l2 l3 l4 l5 l6 l7 => exact .own (.oo (by rw [upd_ne nb]; exact l1) (by rw [upd_ne (fun z => by rw [z, k1] at l2; cases l2)]; exact l2) l3 l4 l5 l6 l7)
      · have own_of : ∀ {n : Nat} {u : Sl}, (ρ.set i (.ow m ys))[n]? = some u → u.owned = true → ∃ u', ρ[n]? = some u' ∧ u'.owned = true := fun {n u} hn ho => by
          by_cases hni : n = i
          · subst hni
            exact ⟨_, h, rfl⟩
          · rw [List.getElem?_set_ne (Ne.symm hni)] at hn
            exact ⟨u, hn, ho⟩
        obtain ⟨s', m1, m2⟩ := own_of j1 o1
        obtain ⟨t', m3, m4⟩ := own_of j2 o2
        exact R.ap j k c s' t' m1 m3 m2 m4 e1 e2
theorem keep_ow {i : Nat} {m : Bool} {xs ys : List D} (h : ρ[i]? = some (.ow m xs)) : Keep ρ (ρ.set i (.ow m ys)) := fun j s hs hm => by
  by_cases hj : j = i
  · subst hj
    have il : j < ρ.length := by
      by_cases z : j < ρ.length
      · exact z
      · rw [List.getElem?_eq_none (by omega)] at h
        cases h
    rw [h] at hs
    cases hs
    exact ⟨_, List.getElem?_set_self il, hm⟩
  · rw [List.getElem?_set_ne (Ne.symm hj)]
    exact ⟨s, hs, hm⟩
/-- what a list is behind it, and what it hands back -/
def MuG (e : Ev) (r : V → List V → Hp → VK → Prop) (g : List D → List D → Option (List D × D)) : Prop := ∀ (G H : Hp) (b : Addr) (ws vs : List V) (xs ds ys : List D) (d : D) (Q : VK), L2.Same G H → H b = some (.lst ws) → DRs e G ws xs → DRs e G vs ds → g xs ds = some (ys, d) →
  (∀ ws' v, DRs e G ws' ys → DR e G v d → Q v (upd H b (.lst ws'))) → r (.ref b) vs H Q
def muX (i : Nat) (g : List D → List D → Option (List D × D)) (f : Mo (List D)) : Mo Sl := Mo.bind f fun ds ρ => match ρ[i]? with
  | some (.ow m xs) => (match g xs ds with
    | some (ys, d) => .ok (ρ.set i (.ow m ys)) (.fz d)
    | none => .bad)
  | _ => .bad
theorem mu_core {r : V → List V → Hp → VK → Prop} {g : List D → List D → Option (List D × D)} {i : Nat} (mg : MuG e r g) {ds : List D} {vs : List V} {v : V} {Q : VK} (R : Rel e Fo G σ H ρ) (hv : σ[i]? = some (some v)) (rd : DRs e G vs ds)
    (p : Post e W (fun e Fo G σ H ρ v s => Val e Fo G σ H ρ v s) Fo G σ ρ (match ρ[i]? with
      | some (.ow m xs) => (match g xs ds with
        | some (ys, d) => .ok (ρ.set i (.ow m ys)) (.fz d)
        | none => .bad)
      | _ => .bad) Q) : r v vs H Q := by
  cases q : ρ[i]? with
  | none => rw [q] at p; exact p.elim
  | some s =>
    rw [q] at p
    obtain ⟨o, h1, h2⟩ := R.get q
    rw [hv] at h1
    cases h1
    cases s with
    | ow m xs =>
      cases h2 with
      | own k =>
        cases k with
        | @ow _ ws _ k1 k2 k3 k4 =>
          cases q2 : g xs ds with
          | none => simp only [q2] at p; exact p.elim
          | some yd =>
            obtain ⟨ys, d⟩ := yd
            simp only [q2] at p
            exact mg G H _ ws vs xs ds ys d Q R.gh k1 k2 rd q2 fun ws' v' r1 r2 => p G _ v' (L2.Same.refl _) (keep_ow q) (R.upd_own q hv r1) (.fz r2)
    | _ => exact p.elim
theorem ty_lst {K : PySem.W.Frag} {i : Nat} {v : V} {m : Bool} {xs : List D} (R : Rel e Fo G σ H ρ) (h : ρ[i]? = some (.ow m xs)) (hv : σ[i]? = some (some v)) : tyV K "list" v H := by
  obtain ⟨o, h1, h2⟩ := R.get h
  rw [hv] at h1
  cases h1
  cases h2 with
  | own k =>
    cases k with
    | ow k1 k2 k3 k4 => exact .inl ⟨rfl, _, SqL.of k1⟩
/-- x.m(e, ..), x a name whose own list it changes -/
def muN (i : Nat) (f : Mo Sl) : Mo Sl := fun ρ => match ρ[i]? with
  | some (.ow _ _) => f ρ
  | _ => .bad
theorem xx_mu {x a : Expr} {es : List Expr} {i : Nat} {name : Str} {id : String} {r : V → List V → Hp → VK → Prop} {g : List D → List D → Option (List D × D)} {f : Mo (List D)} {apos cpos : Pos} (slot : Slot "list" name id) (hty : typeOf (.builtin id) = pure (.type "method_descriptor")) (hm : MtR X id r) (mg : MuG e r g)
    (hx : PE X x (tVar i)) (ha : PA X (a :: es) (tAD e W f)) (hbase : attributeBase x name X.env (eval x X.env) = eval x X.env := by rfl)
    (hfew : ((backTo cpos (starEach (a :: es) X.env)).all (fun x => !x.1) && (backToKw cpos (keywordEach [] X.env)).all (fun x => x.1.isSome)
      && decide ((a :: es).length + ([] : List Keyword).length + (if ([] : List Keyword).isEmpty then 0 else 1) < 30)) = true := by rfl)
    (hline : (apos.endLine == cpos.line) = true := by rfl) (hs : starEach (a :: es) X.env = (false, eval a X.env) :: starEach es X.env := by rfl) (hplain : (backTo cpos (starEach es X.env)).any (·.1) = false := by rfl) :
    PE X (.Call (.Attribute x name apos) (a :: es) [] cpos) (tX e W (muN i (muX i g f))) := (pe_bm PySem.F.plainAttrs_list slot hty hm hx ha hbase hfew hline hs hplain).imp fun σ H Q ⟨Fo, G, ρ, R, p⟩ => by
  unfold muN at p
  cases q : ρ[i]? with
  | none => rw [q] at p; exact p.elim
  | some s =>
    rw [q] at p
    cases s with
    | ow m xs =>
      obtain ⟨o, h1, h2⟩ := R.get q
      have h2' := h2
      cases h2 with
      | own k =>
        refine ⟨_, h1, ty_lst R q h1, ?_⟩
        refine tG.mono (Post.bind R p) fun vs H1 ⟨G1, ρ1, ds, g1, R1, r1, p1⟩ => ?_
        exact mu_core mg R1 h1 r1 p1
    | _ => exact p.elim
theorem xx_mu0 {x : Expr} {i : Nat} {name : Str} {id : String} {r : V → List V → Hp → VK → Prop} {g : List D → List D → Option (List D × D)} {apos cpos : Pos} (slot : Slot "list" name id) (hty : typeOf (.builtin id) = pure (.type "method_descriptor")) (hm : MtR X id r) (mg : MuG e r g)
    (hx : PE X x (tVar i)) (hbase : attributeBase x name X.env (eval x X.env) = eval x X.env := by rfl) (hline : (apos.endLine == cpos.line) = true := by rfl) :
    PE X (.Call (.Attribute x name apos) [] [] cpos) (tX e W (muN i (muX i g nilD))) := (pe_bm0 PySem.F.plainAttrs_list slot hty hm hx hbase hline).imp fun σ H Q ⟨Fo, G, ρ, R, p⟩ => by
  unfold muN at p
  cases q : ρ[i]? with
  | none => rw [q] at p; exact p.elim
  | some s =>
    rw [q] at p
    cases s with
    | ow m xs =>
      obtain ⟨o, h1, h2⟩ := R.get q
      cases h2 with
      | own k =>
        refine ⟨_, h1, ty_lst R q h1, ?_⟩
        exact mu_core mg R h1 (DRs.nil) p
    | _ => exact p.elim
def appendG : List D → List D → Option (List D × D)
  | xs, [d] => if xs.length < sizeLine then some (xs ++ [d], .non) else none
  | _, _ => none
theorem mg_append : MuG e rAppend appendG := by
  intro G H b ws vs xs ds ys d Q g h1 h2 h3 hg q
  cases h3 with
  | nil => cases hg
  | cons a r =>
    cases r with
    | cons _ _ => cases hg
    | nil =>
      simp only [appendG] at hg
      by_cases c : xs.length < sizeLine
      · rw [if_pos c] at hg
        cases hg
        exact ⟨b, ws, _, rfl, rfl, h1, by rw [h2.length]; exact c, q _ _ (h2.append (.cons a .nil)) .non⟩
      · rw [if_neg c] at hg
        cases hg
def extendG : List D → List D → Option (List D × D)
  | xs, [.lst ds] => if xs.length + ds.length ≤ sizeLine then some (xs ++ ds, .non) else none
  | _, _ => none
theorem mg_extend : MuG e rExtend extendG := by
  intro G H b ws vs xs ds ys d Q g h1 h2 h3 hg q
  cases h3 with
  | nil => cases hg
  | cons a r =>
    cases r with
    | cons _ _ => simp [extendG] at hg
    | nil =>
      cases a with
      | lst a1 a2 =>
        simp only [extendG] at hg
        split at hg
        · rename_i c
          cases hg
          exact ⟨b, _, ws, _, rfl, rfl, h1, g _ _ a1, by rw [h2.length, a2.length]; exact c, q _ _ (h2.append a2) .non⟩
        · cases hg
      | _ => cases hg
def popG : List D → List D → Option (List D × D)
  | xs, [] => (xs[xs.length - 1]?).map fun d => (xs.dropLast, d)
  | _, _ => none
theorem DRs.dropLast {vs : List V} {ds : List D} (h : DRs e G vs ds) : DRs e G vs.dropLast ds.dropLast := by
  rw [List.dropLast_eq_take, List.dropLast_eq_take, h.length]
  exact h.take _
theorem mg_pop : MuG e rPop popG := by
  intro G H b ws vs xs ds ys d Q g h1 h2 h3 hg q
  cases h3 with
  | cons _ _ => cases hg
  | nil =>
    obtain ⟨d', k1, k2⟩ := Option.map_eq_some_iff.mp (show (xs[xs.length - 1]?).map (fun d => (xs.dropLast, d)) = some (ys, d) from hg)
    cases k2
    obtain ⟨v, k3, k4⟩ := h2.get k1
    exact ⟨b, ws, v, rfl, rfl, h1, by rw [h2.length]; exact k3, q _ _ h2.dropLast k4⟩

/-! ### methods that look -/
def MtG (e : Ev) (r : V → List V → Hp → VK → Prop) (T : String) (g : D → List D → Option Sl) : Prop := ∀ (G H : Hp) (v : V) (vs : List V) (d : D) (ds : List D) (s : Sl) (Q : VK), L2.Same G H → CoR e G H v d → CoRs e G H vs ds → g d ds = some s →
  (∀ G' H' v, Gr G H G' H' → New e H G' H' v s → Q v H') → r v vs H Q
/-- of which kind it is -/
def kindIs (T : String) (d : D) : Bool := match d with
  | .str _ => T == "str"
  | .lst _ => T == "list"
  | .scr _ => T == "list"
  | _ => false
theorem kind_ty {K : PySem.W.Frag} (hK : K = e.K) {T : String} {v : V} {d : D} (g : L2.Same G H) (h : CoR e G H v d) (k : kindIs T d = true) : tyV K T v H := by
  subst hK
  cases d with
  | str s =>
    cases h.str
    exact beq_iff_eq.mp k
  | lst xs =>
    obtain ⟨b, ws, rfl, k1, k2⟩ := h.lst g
    exact .inl ⟨beq_iff_eq.mp k, _, SqL.of k1⟩
  | scr xs =>
    obtain ⟨b, rfl, k1⟩ := h.scr g
    exact .inl ⟨beq_iff_eq.mp k, _, k1⟩
  | _ => cases k
def mtX (T : String) (g : D → List D → Option Sl) (fo : Mo Ar) (fa : Mo (List Ar)) : Mo Sl := Mo.bind fo fun o ρ => match con ρ o with
  | some d => if kindIs T d = true then Mo.bind fa (fun as ρ' => match con ρ' o, conS ρ' as with
    | some d', some ds => retO ρ' (g d' ds)
    | _, _ => .bad) ρ else .bad
  | none => .bad
theorem xx_mt {x a : Expr} {es : List Expr} {T : String} {name : Str} {id : String} {r : V → List V → Hp → VK → Prop} {g : D → List D → Option Sl} {fo : Mo Ar} {f : Mo (List Ar)} {apos cpos : Pos} (C : X.K = e.K) (pa : PlainAttrs T) (slot : Slot T name id) (hty : typeOf (.builtin id) = pure (.type "method_descriptor")) (hm : MtR X id r) (mg : MtG e r T g)
    (hx : PE X x (tO e W fo)) (ha : PA X (a :: es) (tA e W f)) (hbase : attributeBase x name X.env (eval x X.env) = eval x X.env := by rfl)
    (hfew : ((backTo cpos (starEach (a :: es) X.env)).all (fun x => !x.1) && (backToKw cpos (keywordEach [] X.env)).all (fun x => x.1.isSome)
      && decide ((a :: es).length + ([] : List Keyword).length + (if ([] : List Keyword).isEmpty then 0 else 1) < 30)) = true := by rfl)
    (hline : (apos.endLine == cpos.line) = true := by rfl) (hs : starEach (a :: es) X.env = (false, eval a X.env) :: starEach es X.env := by rfl) (hplain : (backTo cpos (starEach es X.env)).any (·.1) = false := by rfl) :
    PE X (.Call (.Attribute x name apos) (a :: es) [] cpos) (tX e W (mtX T g fo f)) := (pe_bm pa slot hty hm hx ha hbase hfew hline hs hplain).imp fun σ H Q ⟨Fo, G, ρ, R, p⟩ => by
  refine tG.mono (Post.bind R p) fun v H1 ⟨G1, ρ1, o, g1, R1, r1, p1⟩ => ?_
  cases q1 : con ρ1 o with
  | none => simp only [q1] at p1; exact p1.elim
  | some d =>
    simp only [q1] at p1
    by_cases c : kindIs T d = true
    · rw [if_pos c] at p1
      refine ⟨kind_ty C R1.gh (r1.co R1 q1) c, ?_⟩
      refine tG.mono (Post.bind R1 p1) fun vs H2 ⟨G2, ρ2, as, g2, R2, r2, p2⟩ => ?_
      cases q2 : con ρ2 o with
      | none => simp only [q2] at p2; exact p2.elim
      | some d' =>
        cases q3 : conS ρ2 as with
        | none => simp only [q2, q3] at p2; exact p2.elim
        | some ds =>
          simp only [q2, q3] at p2
          cases q4 : g d' ds with
          | none => simp only [q4, retO] at p2; exact p2.elim
          | some s =>
            simp only [q4, retO] at p2
            exact mg G2 H2 v vs d' ds s Q R2.gh ((r1.mono g2 : ArR e Fo G2 σ H2 ρ2 v o).co R2 q2) (ArRs.co R2 r2 q3) q4 fun G' H' v gr n => p2.new R2 gr n
    · rw [if_neg c] at p1
      exact p1.elim
theorem xx_mt0 {x : Expr} {T : String} {name : Str} {id : String} {r : V → List V → Hp → VK → Prop} {g : D → List D → Option Sl} {fo : Mo Ar} {apos cpos : Pos} (C : X.K = e.K) (pa : PlainAttrs T) (slot : Slot T name id) (hty : typeOf (.builtin id) = pure (.type "method_descriptor")) (hm : MtR X id r) (mg : MtG e r T g)
    (hx : PE X x (tO e W fo)) (hbase : attributeBase x name X.env (eval x X.env) = eval x X.env := by rfl) (hline : (apos.endLine == cpos.line) = true := by rfl) :
    PE X (.Call (.Attribute x name apos) [] [] cpos) (tX e W (mtX T g fo nilA)) := (pe_bm0 pa slot hty hm hx hbase hline).imp fun σ H Q ⟨Fo, G, ρ, R, p⟩ => by
  refine tG.mono (Post.bind R p) fun v H1 ⟨G1, ρ1, o, g1, R1, r1, p1⟩ => ?_
  cases q1 : con ρ1 o with
  | none => simp only [q1] at p1; exact p1.elim
  | some d =>
    simp only [q1] at p1
    by_cases c : kindIs T d = true
    · rw [if_pos c] at p1
      refine ⟨kind_ty C R1.gh (r1.co R1 q1) c, ?_⟩
      have p2 : Post e W (fun e Fo G σ H ρ v s => Val e Fo G σ H ρ v s) Fo G1 σ ρ1 (match con ρ1 o, (some [] : Option (List D)) with
        | some d', some ds => retO ρ1 (g d' ds)
        | _, _ => .bad) Q := p1
      simp only [q1] at p2
      cases q4 : g d [] with
      | none => simp only [q4, retO] at p2; exact p2.elim
      | some s =>
        simp only [q4, retO] at p2
        exact mg G1 H1 v [] d [] s Q R1.gh (r1.co R1 q1) .nil q4 fun G' H' v gr n => p2.new R1 gr n
    · rw [if_neg c] at p1
      exact p1.elim
end
/-! ### list.count, list.index of flat things -/
section
variable {X : Cx} {e : Ev}
theorem countP_eqU {x : V} : ∀ {xs : List V} {us : List Value}, Vals xs us → xs.all flatV = true → us.countP (eqU x) = xs.countP fun y => eqV y x
  | _, _, .nil, _ => rfl
  | y :: xs, u :: us, .cons r t, f => by
    rw [List.all_cons, Bool.and_eq_true] at f
    rw [List.countP_cons, List.countP_cons, eqU_of r f.1, countP_eqU t f.2]
def rCntF (K : PySem.W.Frag) : V → List V → Hp → VK → Prop := fun x xs H Q => ∃ (p : Addr) (ys : List V) (y : V), x = .ref p ∧ xs = [y] ∧ SqL K H p ys ∧ flatV y = true ∧ ys.all flatV = true ∧ Q (.int (ys.countP fun z => eqV z y : Nat)) H
theorem mt_countF : MtR X "list.count" (rCntF X.K) := by
  intro pins s σ H x xs v us Q I rx rxs h
  obtain ⟨p, ys, y, rfl, rfl, hs, fy, fys, q⟩ := h
  cases rx
  cases rxs with
  | cons ry rt =>
    rename_i uy ut
    cases rt
    obtain ⟨its, rv, ⟨⟨cls, dd, data, sl⟩, n, ho, hc, hdn, hd⟩, hlen⟩ := I.list hs
    simp only at hc hd
    subst hc hd
    refine call_meets PySem.F.slot_list_count ⟨_, ho, rfl⟩ PySem.F.entry_list_count (PySem.F.args_list_count_2 _ _)
      (SeqAt.list_countAt p its.toArray n dd sl uy (eqU y)) ⟨ho, fun u' hu' => mem_eqAt ry fy rv fys u' (by simpa using hu'), ?_⟩
    have ec : its.toArray.toList.countP (eqU y) = ys.countP (fun z => eqV z y) := by
      show its.countP (eqU y) = _
      exact countP_eqU rv fys
    refine ⟨.int (ys.countP (fun z => eqV z y) : Nat), H, I.tok _, ⟨s.toks, ?_⟩, q⟩
    show Value.int ((its.toArray.toList.countP (eqU y) : Nat) : Int) s.toks = _
    rw [ec]
theorem mt_countU (C : X.K = e.K) : MtR X "list.count" (rCntF e.K) := by rw [← C]; exact mt_countF
theorem mt_indexU (C : X.K = e.K) : MtR X "list.index" (rIndex e.K) := by rw [← C]; exact mt_index
def countG : D → List D → Option Sl
  | .lst xs, [d] => (match flatD d, flatsD xs with
    | some v, some vs => intS (vs.countP fun z => eqV z v : Nat)
    | _, _ => none)
  | _, _ => none
theorem mg_count : MtG e (rCntF e.K) "list" countG := by
  intro G H v vs d ds s Q g h1 h2 hs q
  cases d with
  | lst xs =>
    obtain ⟨b, ws, rfl, k1, k2⟩ := h1.lst g
    cases h2 with
    | nil => cases hs
    | cons a r =>
      cases r with
      | cons _ _ => cases hs
      | nil =>
        rename_i y d1
        simp only [countG] at hs
        cases q1 : flatD d1 with
        | none => simp only [q1] at hs; cases hs
        | some w =>
          cases q2 : flatsD xs with
          | none => simp only [q1, q2] at hs; cases hs
          | some wws =>
            simp only [q1, q2] at hs
            cases hs
            obtain ⟨rfl, e1⟩ := flat_of (a.dr (flatD_lst q1)) q1
            obtain ⟨rfl, e2⟩ := flats_of k2 q2
            exact ⟨b, _, _, rfl, rfl, SqL.of k1, e1, e2, q G H _ (Gr.refl g) (.int _)⟩
  | _ => cases hs
/-- the first place -/
def indexG : D → List D → Option Sl
  | .lst xs, [d] => (match flatD d, flatsD xs with
    | some v, some vs => (vs.findIdx? fun z => eqV z v).bind fun (j : Nat) => intS j
    | _, _ => none)
  | _, _ => none
theorem mg_index : MtG e (rIndex e.K) "list" indexG := by
  intro G H v vs d ds s Q g h1 h2 hs q
  cases d with
  | lst xs =>
    obtain ⟨b, ws, rfl, k1, k2⟩ := h1.lst g
    cases h2 with
    | nil => cases hs
    | cons a r =>
      cases r with
      | cons _ _ => cases hs
      | nil =>
        rename_i y d1
        simp only [indexG] at hs
        cases q1 : flatD d1 with
        | none => simp only [q1] at hs; cases hs
        | some w =>
          cases q2 : flatsD xs with
          | none => simp only [q1, q2] at hs; cases hs
          | some wws =>
            simp only [q1, q2] at hs
            obtain ⟨rfl, e1⟩ := flat_of (a.dr (flatD_lst q1)) q1
            obtain ⟨rfl, e2⟩ := flats_of k2 q2
            obtain ⟨j, h3, h4⟩ := Option.bind_eq_some_iff.mp hs
            cases h4
            obtain ⟨hj, h5, h6⟩ := List.findIdx?_eq_some_iff_getElem.mp h3
            refine ⟨b, ws, y, j, ws[j], rfl, rfl, SqL.of k1, e1, e2, List.getElem?_eq_getElem hj, h5, fun m z' hm hz => ?_, q G H _ (Gr.refl g) (.int _)⟩
            have hml : m < ws.length := by omega
            rw [List.getElem?_eq_getElem hml] at hz
            cases hz
            exact Bool.eq_false_iff.mpr (h6 m hm)
  | _ => cases hs
/-! ### methods of texts -/
def upperG : D → List D → Option Sl
  | .str a, [] => if a.length ≤ 5592405 then some (.fz (.str (Txt.upper a))) else none
  | _, _ => none
theorem mg_upper : MtG e (fun x xs H Q => ∃ a, x = .str a ∧ xs = [] ∧ a.length ≤ 5592405 ∧ Q (.str (Txt.upper a)) H) "str" upperG := by
  intro G H v vs d ds s Q g h1 h2 hs q
  cases d with
  | str a =>
    cases h1.str
    cases h2 with
    | cons _ _ => cases hs
    | nil =>
      simp only [upperG] at hs
      by_cases c : a.length ≤ 5592405
      · rw [if_pos c] at hs
        cases hs
        exact ⟨a, rfl, rfl, c, q G H _ (Gr.refl g) (.str _)⟩
      · rw [if_neg c] at hs
        cases hs
  | _ => cases hs
def joinG : D → List D → Option Sl
  | .str a, [.lst xs] => (strsD xs).bind fun ys => if (ys.map (·.length)).sum + ys.length * a.length ≤ 16777216 then some (.fz (.str (Txt.join a ys))) else none
  | .str a, [.tup xs] => (strsD xs).bind fun ys => if (ys.map (·.length)).sum + ys.length * a.length ≤ 16777216 then some (.fz (.str (Txt.join a ys))) else none
  | _, _ => none
def rJoinU (K : PySem.W.Frag) : V → List V → Hp → VK → Prop := fun x xs H Q => ∃ a p, ∃ ys : List Str, x = .str a ∧ xs = [.ref p] ∧ (SqL K H p (ys.map V.str) ∨ SqT K H p (ys.map V.str)) ∧
    (ys.map (·.length)).sum + ys.length * a.length ≤ 16777216 ∧ Q (.str (Txt.join a ys)) H
theorem mt_joinU (C : X.K = e.K) : MtR X "str.join" (rJoinU e.K) := by rw [← C]; exact mt_join
theorem mg_join : MtG e (rJoinU e.K) "str" joinG := by
  intro G H v vs d ds s Q g h1 h2 hs q
  cases d with
  | str a =>
    cases h1.str
    cases h2 with
    | nil => cases hs
    | @cons y d1 _ _ b r =>
      cases r with
      | cons _ _ => cases d1 <;> cases hs
      | nil =>
        cases d1 with
        | lst xs =>
          obtain ⟨p, ws, rfl, k1, k2⟩ := b.lst g
          obtain ⟨ys, h3, h4⟩ := Option.bind_eq_some_iff.mp (show (strsD xs).bind _ = some s from hs)
          split at h4
          · rename_i c
            cases h4
            rw [strsD_eq h3] at k2
            rw [k2.strs] at k1
            exact ⟨a, p, ys, rfl, rfl, .inl (SqL.of k1), c, q G H _ (Gr.refl g) (.str _)⟩
          · cases h4
        | tup xs =>
          obtain ⟨p, ws, rfl, k1, k2⟩ := b.tup g
          obtain ⟨ys, h3, h4⟩ := Option.bind_eq_some_iff.mp (show (strsD xs).bind _ = some s from hs)
          split at h4
          · rename_i c
            cases h4
            rw [strsD_eq h3] at k2
            rw [k2.strs] at k1
            exact ⟨a, p, ys, rfl, rfl, .inr k1, c, q G H _ (Gr.refl g) (.str _)⟩
          · cases h4
        | _ => cases hs
  | _ => cases hs
end
end L2.WD
/-! The data layer, part 8: defs, their promises, their calls. -/
namespace L2.WD
open PySem PySem.Spec PyProof.Rows

abbrev ValL : RlT Sl V := fun e Fo G σ H ρ v s => Val e Fo G σ H ρ v s
abbrev WK (E : XK) : WX := fun cls od _ H => E cls od H
/-- the promise of a def: what its function of slots gives -/
def spD (e : Ev) (n : Nat) (F : Mo Sl) : Sp := fun vs H Q E => vs.length = n ∧ tX e (WK E) F (vs.map some) H Q

def Sl.flag (p : Bool) : Sl → Sl
  | .ow _ xs => .ow p xs
  | .oo _ c fs => .oo p c fs
  | s => s
/-- a def's own look at its arguments: own lists are the caller's -/
def give (s : Sl) : Sl := s.flag true
def back : List Sl → List Sl → List Sl
  | a :: as, r :: ρ => (if a.owned = true then r.flag a.mine else a) :: back as ρ
  | as, _ => as
def bodyF (n : Nat) (g : So) : Mo Sl := fun as => match g (as.map give ++ List.replicate (n - as.length) .no) with
  | .rt ρ s => .ok (back as ρ) s
  | .nx ρ => .ok (back as ρ) (.fz .non)
  | .exc ρ c fs => .exc (back as ρ) c fs
  | _ => .bad
theorem flag_owned {p : Bool} {s : Sl} : (s.flag p).owned = s.owned := by cases s <;> rfl
theorem flag_mine {p : Bool} {s : Sl} (h : s.owned = true) : (s.flag p).mine = p := by cases s <;> first | rfl | cases h
section
variable {e : Ev} {Fo G H : Hp} {σ σ' : St} {ρ as : List Sl} {vs : List V}
theorem OwR.flag {b : Addr} {s : Sl} {p : Bool} (h : OwR e Fo G H b s) : OwR e Fo G H b (s.flag p) := by
  cases h with
  | ow a b c d => exact .ow a b c d
  | oo a b c d e f g => exact .oo a b c d e f g
theorem SlR.flag {o : Option V} {s : Sl} {p : Bool} (h : SlR e Fo G H o s) : SlR e Fo G H o (s.flag p) := by
  cases h with
  | no => exact .no
  | fz r => exact .fz r
  | own r => exact .own r.flag
theorem back_length : ∀ (as ρ : List Sl), (back as ρ).length = as.length
  | [], _ => by cases ‹List Sl› <;> rfl
  | a :: as, [] => rfl
  | a :: as, r :: ρ => by simp [back, back_length as ρ]
theorem back_get : ∀ (as ρ : List Sl) (i : Nat) (a r : Sl), as[i]? = some a → ρ[i]? = some r → (back as ρ)[i]? = some (if a.owned = true then r.flag a.mine else a)
  | [], _, _, _, _, h, _ => by simp at h
  | a :: as, [], _, _, _, _, h => by simp at h
  | a :: as, r :: ρ, 0, _, _, h1, h2 => by simp at h1 h2; subst h1 h2; rfl
  | a :: as, r :: ρ, i + 1, _, _, h1, h2 => by
    have := back_get as ρ i _ _ (by simpa using h1) (by simpa using h2)
    simpa [back] using this
theorem start_get {N : List Str} {i : Nat} (h : i < vs.length) : (start N vs)[i]? = (vs.map some)[i]? := by
  unfold start
  rw [List.getElem?_append_left (by simpa using h)]
/-- a def's slots at its entry -/
theorem Rel.entry {N : List Str} (R : Rel e Fo G (vs.map some) H as) : Rel e Fo G (start N vs) H (as.map give ++ List.replicate (N.length - as.length) .no) := by
  have hl : vs.length = as.length := by simpa using R.len
  refine ⟨R.gh, R.fh, R.fg, .of_get (by simp [start, hl]) fun i o s h1 h2 => ?_, fun i j b s t h1 h2 o1 o2 e1 e2 => ?_⟩
  · by_cases c : i < as.length
    · rw [start_get (by omega)] at h1
      rw [List.getElem?_append_left (by simpa using c), List.getElem?_map] at h2
      obtain ⟨s', h3, h4⟩ := Option.map_eq_some_iff.mp h2
      subst h4
      obtain ⟨o', h5, h6⟩ := R.get h3
      rw [h1] at h5
      cases h5
      exact h6.flag
    · rw [List.getElem?_append_right (by simpa using c)] at h2
      have : s = .no := by
        have := List.mem_of_getElem? h2
        exact List.eq_of_mem_replicate this
      subst this
      exact .no
  · have key : ∀ {n : Nat} {u : Sl}, (as.map give ++ List.replicate (N.length - as.length) Sl.no)[n]? = some u → u.owned = true → ∃ u', as[n]? = some u' ∧ u'.owned = true := fun {n u} hn ho => by
      by_cases c : n < as.length
      · rw [List.getElem?_append_left (by simpa using c), List.getElem?_map] at hn
        obtain ⟨s', h3, h4⟩ := Option.map_eq_some_iff.mp hn
        subst h4
        exact ⟨s', h3, by unfold give at ho; rw [flag_owned] at ho; exact ho⟩
      · rw [List.getElem?_append_right (by simpa using c)] at hn
        have : u = .no := List.eq_of_mem_replicate (List.mem_of_getElem? hn)
        subst this
        cases ho
    obtain ⟨s', k1, k2⟩ := key h1 o1
    obtain ⟨t', k3, k4⟩ := key h2 o2
    have lt : ∀ {n : Nat} {u : Sl}, as[n]? = some u → n < vs.length := fun {n u} h => by
      by_cases c : n < as.length
      · omega
      · rw [List.getElem?_eq_none (by omega)] at h
        cases h
    rw [start_get (lt k1)] at e1
    rw [start_get (lt k3)] at e2
    exact R.ap i j b s' t' k1 k3 k2 k4 e1 e2
/-- .. and at its end, for the caller -/
theorem exit_facts {N : List Str} {G' H' : Hp} (R0 : Rel e Fo G (vs.map some) H as) (g : L2.Same G G') (k : KeepS (start N vs) (as.map give ++ List.replicate (N.length - as.length) .no) σ' ρ) (R : Rel e Fo G' σ' H' ρ) :
    Keep as (back as ρ) ∧ Rel e Fo G' (vs.map some) H' (back as ρ) ∧ ∀ v s, Val e Fo G' σ' H' ρ v s → Val e Fo G' (vs.map some) H' (back as ρ) v s := by
  have hl : vs.length = as.length := by simpa using R0.len
  have lt : ∀ {n : Nat} {u : Sl}, as[n]? = some u → n < as.length := fun {n u} h => by
    by_cases c : n < as.length
    · exact c
    · rw [List.getElem?_eq_none (by omega)] at h
      cases h
  -- an own one among the arguments
  have own : ∀ {i : Nat} {a : Sl}, as[i]? = some a → a.owned = true → ∃ r, ρ[i]? = some r ∧ r.mine = true ∧ σ'[i]? = (vs.map some)[i]? ∧ (back as ρ)[i]? = some (r.flag a.mine) := fun {i a} h ho => by
    have h1 : (as.map give ++ List.replicate (N.length - as.length) Sl.no)[i]? = some (give a) := by
      rw [List.getElem?_append_left (by simpa using lt h), List.getElem?_map, h]
      rfl
    obtain ⟨e1, r, h2, h3⟩ := k i (give a) h1 (flag_mine ho)
    refine ⟨r, h2, h3, by rw [e1, start_get (by have := lt h; omega)], ?_⟩
    rw [back_get as ρ i a r h h2, if_pos ho]
  have get : ∀ {i : Nat} {u : Sl}, (back as ρ)[i]? = some u → ∃ a, as[i]? = some a ∧ ((a.owned = true ∧ ∃ r, ρ[i]? = some r ∧ r.mine = true ∧ σ'[i]? = (vs.map some)[i]? ∧ u = r.flag a.mine) ∨ (a.owned = false ∧ u = a)) := fun {i u} h => by
    have c : i < as.length := by
      by_cases c : i < as.length
      · exact c
      · rw [List.getElem?_eq_none (by rw [back_length]; omega)] at h
        cases h
    refine ⟨as[i], List.getElem?_eq_getElem c, ?_⟩
    cases q : as[i].owned with
    | true =>
      obtain ⟨r, h1, h2, h3, h4⟩ := own (List.getElem?_eq_getElem c) q
      rw [h4] at h
      cases h
      exact .inl ⟨rfl, r, h1, h2, h3, rfl⟩
    | false =>
      refine .inr ⟨rfl, ?_⟩
      have : ∀ (as ρ : List Sl) (i : Nat) (c : i < as.length) (u : Sl), as[i].owned = false → (back as ρ)[i]? = some u → u = as[i] := by
        intro as
        induction as with
        | nil => intro ρ i c; simp at c
        | cons a as ih =>
          intro ρ i c u q h
          cases ρ with
          | nil =>
            have h' : (a :: as)[i]? = some u := h
            rw [List.getElem?_eq_getElem c] at h'
            exact (Option.some.inj h').symm
          | cons r ρ =>
            cases i with
            | zero =>
              have q' : a.owned = false := q
              have h' : (if a.owned = true then r.flag a.mine else a) = u := by simpa [back] using h
              rw [q', if_neg Bool.false_ne_true] at h'
              exact h'.symm
            | succ i =>
              have h' : (back as ρ)[i]? = some u := by simpa [back] using h
              exact ih ρ i (by simpa using c) u (by simpa using q) h'
      exact this as ρ i c u q h
  have lt2 : ∀ {n : Nat} {u : Sl}, (back as ρ)[n]? = some u → n < as.length := fun {n u} h => by
    obtain ⟨a, h1, _⟩ := get h
    exact lt h1
  have R' : Rel e Fo G' (vs.map some) H' (back as ρ) := by
    refine ⟨R.gh, R.fh, R.fg, .of_get (by rw [back_length]; simp [hl]) fun i o s h1 h2 => ?_, fun i j b s t h1 h2 o1 o2 e1 e2 => ?_⟩
    · obtain ⟨a, k1, k2⟩ := get h2
      rcases k2 with ⟨ho, r, m1, m2, m3, rfl⟩ | ⟨ho, rfl⟩
      · obtain ⟨o', n1, n2⟩ := R.get m1
        rw [m3, h1] at n1
        cases n1
        exact n2.flag
      · obtain ⟨o', n1, n2⟩ := R0.get k1
        rw [h1] at n1
        cases n1
        cases n2 with
        | no => exact .no
        | fz r => exact .fz (r.mono g)
        | own r =>
          have := r.at.2.2.2
          rw [ho] at this
          cases this
    · obtain ⟨a, k1, k2⟩ := get h1
      obtain ⟨a2, k3, k4⟩ := get h2
      rcases k2 with ⟨ho, r, m1, m2, m3, rfl⟩ | ⟨ho, rfl⟩
      · rcases k4 with ⟨ho2, r2, n1, n2, n3, rfl⟩ | ⟨ho2, rfl⟩
        · exact R.ap i j b r r2 m1 n1 (Sl.mine_owned m2) (Sl.mine_owned n2) (by rw [m3]; exact e1) (by rw [n3]; exact e2)
        · rw [ho2] at o2; cases o2
      · rw [ho] at o1; cases o1
  refine ⟨fun i s h m => ?_, R', fun v s hv => ⟨hv.1, hv.2.1, fun ho b i t ev ht hto he => ?_⟩⟩
  · obtain ⟨r, h1, h2, h3, h4⟩ := own h (Sl.mine_owned m)
    exact ⟨_, h4, by rw [flag_mine (Sl.mine_owned h2)]; exact m⟩
  · obtain ⟨a, k1, k2⟩ := get ht
    rcases k2 with ⟨ho, r, m1, m2, m3, rfl⟩ | ⟨ho, rfl⟩
    · exact hv.2.2 (by assumption) b i r ev m1 (Sl.mine_owned m2) (by rw [m3]; exact he)
    · rw [ho] at hto; cases hto
end
section
variable {P : Program} {w : World} {e : Ev} {base : Heap} {x qual : Str} {params : Arguments} {body : List Stmt} {scope : Scope} {dvs : List V} {kws : List (Str × V)} {f : Addr} {fd : FuncData}
/-- THE RULE for a def -/
theorem fnD_ok {N ps : List Str} {k : Nat} {g : So} (F : FunD e.K x qual params body scope dvs kws f fd) (S : FnScope N ps scope)
    (hbody : ∀ (X : Cx) (W : WX), EC X e W → X.calm = true → X.prog = P → X.w = w → X.base = base → Room k X.A → (∃ (cdv : Value) (A : Around) (outer : List Env) (s : Shared) (H : Hp) (E : XK), X = cxOf (L2.CX P w) P w e.K e.mg base N qual scope f cdv A outer s H E) → PSs X body (tS e W g)) :
    FnOk P w e.K e.mg base (L2.CX P w) (k + 1) f fd ps (spD e ps.length (bodyF N.length g)) := by
  refine F.ok S (fun vs H Q E h => h.1) fun cdv A outer s H vs Q E hr h => ?_
  refine ⟨tS e (WK E) g, hbody _ (WK E) ⟨rfl, rfl, S.nd, takes_of rfl rfl rfl rfl, passes_of rfl⟩ rfl rfl rfl rfl hr ⟨cdv, A, outer, s, H, E, rfl⟩, ?_⟩
  obtain ⟨_, Fo, G, as, R, p⟩ := h
  refine ⟨Fo, G, _, R.entry (N := N), ?_⟩
  unfold bodyF at p
  cases q : g (as.map give ++ List.replicate (N.length - as.length) Sl.no) with
  | nx ρ =>
    rw [q] at p
    intro G' σ' H' g1 k1 R1
    obtain ⟨f1, f2, f3⟩ := exit_facts R g1 k1 R1
    exact p G' H' .non g1 f1 f2 (.fz .non)
  | rt ρ s =>
    rw [q] at p
    intro G' σ' H' v g1 k1 R1 hv
    obtain ⟨f1, f2, f3⟩ := exit_facts R g1 k1 R1
    exact p G' H' v g1 f1 f2 (f3 v s hv)
  | exc ρ c fs =>
    rw [q] at p
    intro G' σ' H' cls od g1 k1 R1 x
    obtain ⟨f1, f2, f3⟩ := exit_facts R g1 k1 R1
    exact p G' H' cls od g1 f1 f2 x
  | bk ρ => rw [q] at p; exact p.elim
  | ct ρ => rw [q] at p; exact p.elim
  | bad => rw [q] at p; exact p.elim
end

/-! ### a call -/
def argS (ρ : List Sl) : List Ar → List Sl
  | [] => []
  | .vl d :: as => .fz d :: argS ρ as
  | .sl i :: as => ρ.getD i .no :: argS ρ as
/-- the slots of which own lists are handed on -/
def ownIx (ρ : List Sl) : List Ar → List Nat
  | [] => []
  | .vl _ :: as => ownIx ρ as
  | .sl i :: as => if (ρ.getD i .no).owned = true then i :: ownIx ρ as else ownIx ρ as
def wb (ρ : List Sl) : List Ar → List Sl → List Sl
  | .sl i :: as, s :: ss => if (ρ.getD i .no).owned = true then (wb ρ as ss).set i s else wb ρ as ss
  | .vl _ :: as, _ :: ss => wb ρ as ss
  | _, _ => ρ
/-- F at these arguments; more: what stands behind them (defaults) -/
def appF (F : Mo Sl) (more : List D) (as : List Ar) : Mo Sl := fun ρ => if (ownIx ρ as).Nodup then (match F (argS ρ as ++ more.map .fz) with
  | .ok ss s => .ok (wb ρ as ss) s
  | .exc ss c fs => .exc (wb ρ as ss) c fs
  | .bad => .bad) else .bad
def callX (F : Mo Sl) (more : List D) (fa : Mo (List Ar)) : Mo Sl := Mo.bind fa fun as => appF F more as
section
variable {e : Ev} {Fo G H G' H' : Hp} {σ : St} {ρ : List Sl}
theorem argS_length : ∀ as : List Ar, (argS ρ as).length = as.length
  | [] => rfl
  | .vl _ :: as => by simp [argS, argS_length as]
  | .sl _ :: as => by simp [argS, argS_length as]
theorem argS_get : ∀ (as : List Ar) (j : Nat) (a : Ar), as[j]? = some a → (argS ρ as)[j]? = some (match a with | .vl d => .fz d | .sl i => ρ.getD i .no)
  | [], _, _, h => by simp at h
  | .vl d :: as, 0, a, h => by simp at h; subst h; rfl
  | .sl i :: as, 0, a, h => by simp at h; subst h; rfl
  | .vl d :: as, j + 1, a, h => by simpa [argS] using argS_get as j a (by simpa using h)
  | .sl i :: as, j + 1, a, h => by simpa [argS] using argS_get as j a (by simpa using h)
theorem ownIx_mem : ∀ (as : List Ar) (j i : Nat), as[j]? = some (.sl i) → (ρ.getD i .no).owned = true → i ∈ ownIx ρ as
  | [], _, _, h, _ => by simp at h
  | .vl d :: as, 0, i, h, _ => by simp at h
  | .sl k :: as, 0, i, h, o => by
    simp at h
    subst h
    unfold ownIx
    rw [if_pos o]
    exact List.mem_cons_self ..
  | .vl d :: as, j + 1, i, h, o => by
    unfold ownIx
    exact ownIx_mem as j i (by simpa using h) o
  | .sl k :: as, j + 1, i, h, o => by
    unfold ownIx
    have := ownIx_mem as j i (by simpa using h) o
    split
    · exact List.mem_cons_of_mem _ this
    · exact this
theorem ownIx_inj : ∀ (as : List Ar) (j k i : Nat), (ownIx ρ as).Nodup → as[j]? = some (.sl i) → as[k]? = some (.sl i) → (ρ.getD i .no).owned = true → j = k
  | [], _, _, _, _, h, _, _ => by simp at h
  | .vl d :: as, 0, _, _, _, h, _, _ => by simp at h
  | .vl d :: as, _ + 1, 0, _, _, _, h, _ => by simp at h
  | .vl d :: as, j + 1, k + 1, i, n, h1, h2, o => by
    unfold ownIx at n
    rw [ownIx_inj as j k i n (by simpa using h1) (by simpa using h2) o]
  | .sl m :: as, 0, 0, _, _, _, _, _ => rfl
  | .sl m :: as, 0, k + 1, i, n, h1, h2, o => by
    simp at h1
    subst h1
    unfold ownIx at n
    rw [if_pos o] at n
    exact absurd (ownIx_mem as k m (by simpa using h2) o) (List.nodup_cons.mp n).1
  | .sl m :: as, j + 1, 0, i, n, h1, h2, o => by
    simp at h2
    subst h2
    unfold ownIx at n
    rw [if_pos o] at n
    exact absurd (ownIx_mem as j m (by simpa using h1) o) (List.nodup_cons.mp n).1
  | .sl m :: as, j + 1, k + 1, i, n, h1, h2, o => by
    unfold ownIx at n
    have n' : (ownIx ρ as).Nodup := by
      split at n
      · exact (List.nodup_cons.mp n).2
      · exact n
    rw [ownIx_inj as j k i n' (by simpa using h1) (by simpa using h2) o]
theorem wb_length : ∀ (as : List Ar) (ss : List Sl), (wb ρ as ss).length = ρ.length
  | [], _ => by unfold wb; rfl
  | .vl _ :: as, [] => by unfold wb; rfl
  | .sl _ :: as, [] => by unfold wb; rfl
  | .vl _ :: as, s :: ss => by unfold wb; exact wb_length as ss
  | .sl i :: as, s :: ss => by
    unfold wb
    split
    · rw [List.length_set]; exact wb_length as ss
    · exact wb_length as ss
/-- a slot that no argument is, or whose list isn't one's own, stays -/
theorem wb_old : ∀ (as : List Ar) (ss : List Sl) (i : Nat), ((∀ j : Nat, as[j]? ≠ some (Ar.sl i)) ∨ (ρ.getD i .no).owned = false) → (wb ρ as ss)[i]? = ρ[i]?
  | [], _, _, _ => by unfold wb; rfl
  | .vl _ :: as, [], _, _ => by unfold wb; rfl
  | .sl _ :: as, [], _, _ => by unfold wb; rfl
  | .vl _ :: as, s :: ss, i, h => by
    unfold wb
    exact wb_old as ss i (h.imp (fun h j q => h (j + 1) (by simpa using q)) id)
  | .sl k :: as, s :: ss, i, h => by
    have ih := wb_old as ss i (h.imp (fun h j q => h (j + 1) (by simpa using q)) id)
    unfold wb
    split
    · rename_i o
      have ne : k ≠ i := fun z => by
        subst z
        rcases h with h | h
        · exact h 0 rfl
        · rw [h] at o; cases o
      rw [List.getElem?_set_ne ne]
      exact ih
    · exact ih
theorem wb_new : ∀ (as : List Ar) (ss : List Sl) (j i : Nat) (s : Sl), (ownIx ρ as).Nodup → as[j]? = some (.sl i) → ss[j]? = some s → (ρ.getD i .no).owned = true → i < ρ.length → (wb ρ as ss)[i]? = some s
  | [], _, _, _, _, _, h, _, _, _ => by simp at h
  | _ :: _, [], _, _, _, _, _, h, _, _ => by simp at h
  | .vl _ :: as, s0 :: ss, 0, _, _, _, h, _, _, _ => by simp at h
  | .vl _ :: as, s0 :: ss, j + 1, i, s, n, h1, h2, o, l => by
    unfold ownIx at n
    unfold wb
    exact wb_new as ss j i s n (by simpa using h1) (by simpa using h2) o l
  | .sl k :: as, s0 :: ss, 0, i, s, n, h1, h2, o, l => by
    simp at h1 h2
    subst h1 h2
    unfold wb
    rw [if_pos o, List.getElem?_set_self (by rw [wb_length]; exact l)]
  | .sl k :: as, s0 :: ss, j + 1, i, s, n, h1, h2, o, l => by
    have n0 := n
    unfold ownIx at n
    have n' : (ownIx ρ as).Nodup := by
      split at n
      · exact (List.nodup_cons.mp n).2
      · exact n
    have ih := wb_new as ss j i s n' (by simpa using h1) (by simpa using h2) o l
    unfold wb
    split
    · rename_i ok
      have ne : k ≠ i := fun z => by
        subst z
        have := ownIx_inj (.sl k :: as) 0 (j + 1) k n0 rfl h1 o
        omega
      rw [List.getElem?_set_ne ne]
      exact ih
    · exact ih
theorem getD_get {i : Nat} {s : Sl} (h : ρ[i]? = some s) : ρ.getD i .no = s := by rw [List.getD_eq_getElem?_getD, h]; rfl
theorem getD_own {i : Nat} (h : (ρ.getD i .no).owned = true) : ∃ s, ρ[i]? = some s ∧ ρ.getD i .no = s ∧ i < ρ.length := by
  cases q : ρ[i]? with
  | none =>
    rw [List.getD_eq_getElem?_getD, q] at h
    cases h
  | some s =>
    refine ⟨s, rfl, getD_get q, ?_⟩
    by_cases c : i < ρ.length
    · exact c
    · rw [List.getElem?_eq_none (by omega)] at q
      cases q
theorem ArRs.get : ∀ {vs : List V} {as : List Ar} {j : Nat} {a : Ar}, ArRs e G σ vs as → as[j]? = some a → ∃ v, vs[j]? = some v ∧ ArR e G G σ G [] v a
  | _, _, _, _, .nil, h => by simp at h
  | _, _, 0, _, .cons r _, h => by simp at h; subst h; exact ⟨_, rfl, r⟩
  | _, _, j + 1, a, .cons _ t, h => by
    obtain ⟨v, h1, h2⟩ := ArRs.get (j := j) t (by simpa using h)
    exact ⟨v, by simpa using h1, h2⟩
theorem ArRs.length : ∀ {vs : List V} {as : List Ar}, ArRs e G σ vs as → vs.length = as.length
  | _, _, .nil => rfl
  | _, _, .cons _ t => congrArg Nat.succ (ArRs.length t)
/-- an own thing that is handed on, or what hangs on it -/
def Handed (ρ : List Sl) (σ : St) (H : Hp) (as : List Ar) (a : Addr) : Prop := ∃ (j i : Nat) (b : Addr), as[j]? = some (.sl i) ∧ (ρ.getD i .no).owned = true ∧ σ[i]? = some (some (V.ref b)) ∧ (a = b ∨ ∃ C ws, H b = some (.ins C a ws))
open Classical in
noncomputable def outF (G H : Hp) (ρ : List Sl) (σ : St) (as : List Ar) : Hp := fun a => if G a = none ∧ ¬ Handed ρ σ H as a then H a else none
theorem outF_some {as : List Ar} {a : Addr} {o : HO} (h : outF G H ρ σ as a = some o) : H a = some o ∧ G a = none ∧ ¬ Handed ρ σ H as a := by
  unfold outF at h
  by_cases c : G a = none ∧ ¬ Handed ρ σ H as a
  · rw [if_pos c] at h
    exact ⟨h, c.1, c.2⟩
  · rw [if_neg c] at h
    cases h
theorem outF_of {as : List Ar} {a : Addr} {o : HO} (h : H a = some o) (g : G a = none) (n : ¬ Handed ρ σ H as a) : outF G H ρ σ as a = some o := by
  unfold outF
  rw [if_pos ⟨g, n⟩]
  exact h
theorem outF_handed {as : List Ar} {a : Addr} (h : Handed ρ σ H as a) : outF G H ρ σ as a = none := by
  unfold outF
  rw [if_neg fun c => c.2 h]
/-- the arguments as the def's slots -/
theorem Rel.args {vs : List V} {as : List Ar} (R : Rel e Fo G σ H ρ) (r : ArRs e G σ vs as) (n : (ownIx ρ as).Nodup) (ws : List V) (ds : List D) (rd : DRs e G ws ds) : Rel e (outF G H ρ σ as) G ((vs ++ ws).map some) H (argS ρ as ++ ds.map .fz) := by
  have hl := r.length
  have hl2 := rd.length
  have own_ar : ∀ {j : Nat} {s : Sl}, (argS ρ as ++ ds.map Sl.fz)[j]? = some s → s.owned = true → ∃ i, as[j]? = some (.sl i) ∧ ρ[i]? = some s ∧ ρ.getD i .no = s := fun {j s} h o => by
    by_cases c : j < as.length
    · rw [List.getElem?_append_left (by rw [argS_length]; exact c), argS_get as j as[j] (List.getElem?_eq_getElem c)] at h
      cases q : as[j] with
      | vl d =>
        rw [q] at h
        cases h
        cases o
      | sl i =>
        rw [q] at h
        have h' : ρ.getD i .no = s := Option.some.inj h
        have o' : (ρ.getD i .no).owned = true := by rw [h']; exact o
        obtain ⟨s', k1, k2, _⟩ := getD_own o'
        refine ⟨i, by rw [List.getElem?_eq_getElem c, q], by rw [k1, ← k2, h'], h'⟩
    · rw [List.getElem?_append_right (by rw [argS_length]; omega), List.getElem?_map] at h
      obtain ⟨d, _, h2⟩ := Option.map_eq_some_iff.mp h
      subst h2
      cases o
  refine ⟨R.gh, fun b o h => (outF_some h).1, fun b o h => (outF_some h).2.1, .of_get (by simp [argS_length, hl, hl2]) fun j o s h1 h2 => ?_, fun j k b s t h1 h2 o1 o2 e1 e2 => ?_⟩
  · by_cases c : j < as.length
    · rw [List.getElem?_append_left (by rw [argS_length]; exact c), argS_get as j as[j] (List.getElem?_eq_getElem c)] at h2
      rw [List.map_append, List.getElem?_append_left (by simp [hl, c])] at h1
      obtain ⟨v, k1, k2⟩ := r.get (List.getElem?_eq_getElem c)
      rw [List.getElem?_map, k1] at h1
      cases h1
      cases q : as[j] with
      | vl d =>
        rw [q] at h2 k2
        cases h2
        exact .fz k2
      | sl i =>
        rw [q] at h2 k2
        have k2' : σ[i]? = some (some v) := k2
        have h2' : ρ.getD i .no = s := Option.some.inj h2
        cases q2 : ρ[i]? with
        | none =>
          rw [List.getD_eq_getElem?_getD, q2] at h2'
          subst h2'
          exact .no
        | some s' =>
          have : s' = s := by rw [← getD_get q2]; exact h2'
          subst this
          obtain ⟨o', m1, m2⟩ := R.get q2
          rw [k2'] at m1
          cases m1
          cases m2 with
          | no => exact .no
          | fz r => exact .fz r
          | @own b _ r =>
            have ho := r.at.2.2.2
            have hd : ∀ a, (a = b ∨ ∃ C ws, H b = some (.ins C a ws)) → outF G H ρ σ as a = none := fun a z => outF_handed ⟨j, i, b, by rw [List.getElem?_eq_getElem c, q], by rw [h2']; exact ho, k2', z⟩
            cases r with
            | ow l1 l2 l3 l4 => exact .own (.ow l1 l2 l3 (hd _ (.inl rfl)))
            | oo l1 l2 l3 l4 l5 l6 l7 => exact .own (.oo l1 l2 l3 l4 l5 (hd _ (.inl rfl)) (hd _ (.inr ⟨_, _, l1⟩)))
    · rw [List.getElem?_append_right (by rw [argS_length]; omega), List.getElem?_map] at h2
      obtain ⟨d, k1, k2⟩ := Option.map_eq_some_iff.mp h2
      subst k2
      rw [List.map_append, List.getElem?_append_right (by simp [hl]; omega), List.getElem?_map] at h1
      rw [argS_length] at k1
      rw [List.length_map, hl] at h1
      obtain ⟨v, m1, m2⟩ := rd.get k1
      rw [m1] at h1
      cases h1
      exact .fz m2
  · obtain ⟨i1, a1, b1, c1⟩ := own_ar h1 o1
    obtain ⟨i2, a2, b2, c2⟩ := own_ar h2 o2
    have sg : ∀ {j i : Nat}, as[j]? = some (.sl i) → ((vs ++ ws).map some)[j]? = some (some (V.ref b)) → σ[i]? = some (some (V.ref b)) := fun {j i} h1 h2 => by
      obtain ⟨v, k1, k2⟩ := r.get h1
      have lt : j < vs.length := by
        by_cases z : j < vs.length
        · exact z
        · rw [List.getElem?_eq_none (by omega)] at k1; cases k1
      rw [List.map_append, List.getElem?_append_left (by simpa using lt), List.getElem?_map, k1] at h2
      cases h2
      exact k2
    have := R.ap i1 i2 b s t b1 b2 o1 o2 (sg a1 e1) (sg a2 e2)
    subst this
    exact ownIx_inj as j k i1 n a1 a2 (by rw [c1]; exact o1)
theorem handed_facts {as : List Ar} {a : Addr} (R : Rel e Fo G σ H ρ) (h : Handed ρ σ H as a) : ∃ (j i : Nat) (c : Addr) (s : Sl), as[j]? = some (.sl i) ∧ ρ[i]? = some s ∧ s.owned = true ∧ σ[i]? = some (some (V.ref c)) ∧ Fo a = none ∧ (a = c ∨ H a = some (.own c)) := by
  obtain ⟨j, i, c, h1, h2, h3, h4⟩ := h
  obtain ⟨s, k1, k2, _⟩ := getD_own h2
  rw [k2] at h2
  obtain ⟨o', m1, m2⟩ := R.get k1
  rw [h3] at m1
  cases m1
  obtain ⟨c', e', q⟩ := m2.owned h2
  cases e'
  refine ⟨j, i, c, s, h1, k1, h2, h3, ?_⟩
  rcases h4 with h4 | ⟨C, ws, h4⟩
  · subst h4
    exact ⟨q.at.2.2.1, .inl rfl⟩
  · cases q with
    | ow l1 l2 l3 l4 =>
      rw [l1] at h4
      cases h4
    | oo l1 l2 l3 l4 l5 l6 l7 =>
      rw [l1] at h4
      cases h4
      exact ⟨l7, .inr l2⟩
/-- behind the call -/
theorem Rel.called {vs ws : List V} {as : List Ar} {ds : List D} {ss : List Sl} (R : Rel e Fo G σ H ρ) (r : ArRs e G σ vs as) (n : (ownIx ρ as).Nodup) (rd : DRs e G ws ds) (g : L2.Same G G') (kp : Keep (argS ρ as ++ ds.map .fz) ss)
    (Rc : Rel e (outF G H ρ σ as) G' ((vs ++ ws).map some) H' ss) : Keep ρ (wb ρ as ss) ∧ Rel e Fo G' σ H' (wb ρ as ss) ∧ ∀ v s, Val e (outF G H ρ σ as) G' ((vs ++ ws).map some) H' ss v s → Val e Fo G' σ H' (wb ρ as ss) v s := by
  have hl := r.length
  have ssl : ss.length = as.length + ds.length := by
    have := Rc.len
    simp [hl, rd.length] at this
    omega
  have foF : ∀ {b : Addr} {o : HO}, Fo b = some o → outF G H ρ σ as b = some o := fun {b o} h => by
    refine outF_of (R.fh _ _ h) (R.fg _ _ h) fun z => ?_
    obtain ⟨_, _, _, _, _, _, _, _, z1, _⟩ := handed_facts R z
    rw [z1] at h
    cases h
  have foN : ∀ {b : Addr}, outF G H ρ σ as b = none → Fo b = none := fun {b} h => by
    cases q : Fo b with
    | none => rfl
    | some o => rw [foF q] at h; cases h
  have owF : ∀ {b : Addr} {s : Sl}, OwR e (outF G H ρ σ as) G' H' b s → OwR e Fo G' H' b s := fun {b s} q => by
    cases q with
    | ow l1 l2 l3 l4 => exact .ow l1 l2 l3 (foN l4)
    | oo l1 l2 l3 l4 l5 l6 l7 => exact .oo l1 l2 l3 l4 l5 (foN l6) (foN l7)
  have still : ∀ {b : Addr} {o : HO}, H b = some o → G b = none → ¬ Handed ρ σ H as b → H' b = some o ∧ G' b = none ∧ outF G H ρ σ as b = some o := fun {b o} h1 h2 h3 => ⟨Rc.fh _ _ (outF_of h1 h2 h3), Rc.fg _ _ (outF_of h1 h2 h3), outF_of h1 h2 h3⟩
  -- a slot behind the call: handed on, or as it was
  have look : ∀ {i : Nat} {s : Sl}, ρ[i]? = some s → (s.owned = true ∧ ∃ (j : Nat) (v : V) (s' : Sl), as[j]? = some (.sl i) ∧ ((vs ++ ws).map some)[j]? = some (some v) ∧ σ[i]? = some (some v) ∧ ss[j]? = some s' ∧ (wb ρ as ss)[i]? = some s' ∧ (argS ρ as ++ ds.map Sl.fz)[j]? = some s) ∨
      ((wb ρ as ss)[i]? = some s ∧ (s.owned = true → ∀ j : Nat, as[j]? ≠ some (Ar.sl i))) := fun {i s} h => by
    by_cases c : s.owned = true ∧ ∃ j : Nat, as[j]? = some (Ar.sl i)
    · obtain ⟨ho, j, hj⟩ := c
      refine .inl ⟨ho, j, ?_⟩
      have jl : j < as.length := by
        by_cases z : j < as.length
        · exact z
        · rw [List.getElem?_eq_none (by omega)] at hj; cases hj
      obtain ⟨v, k1, k2⟩ := r.get hj
      have il : i < ρ.length := by
        by_cases z : i < ρ.length
        · exact z
        · rw [List.getElem?_eq_none (by omega)] at h; cases h
      have sj : ss[j]? = some ss[j] := List.getElem?_eq_getElem (by omega)
      have go : (ρ.getD i .no).owned = true := by rw [getD_get h]; exact ho
      refine ⟨v, ss[j], hj, ?_, k2, sj, wb_new as ss j i _ n hj sj go il, ?_⟩
      · rw [List.map_append, List.getElem?_append_left (by simp [hl, jl]), List.getElem?_map, k1]
        rfl
      · rw [List.getElem?_append_left (by rw [argS_length]; exact jl), argS_get as j _ hj]
        show some (ρ.getD i .no) = some s
        rw [getD_get h]
    · refine .inr ⟨?_, fun ho j hj => c ⟨ho, j, hj⟩⟩
      rw [wb_old as ss i ?_]
      · exact h
      · cases q : s.owned with
        | false => exact .inr (by rw [getD_get h]; exact q)
        | true => exact .inl fun j hj => c ⟨q, j, hj⟩
  have old_of : ∀ {i : Nat} {t : Sl}, (wb ρ as ss)[i]? = some t → ∃ s, ρ[i]? = some s := fun {i t} h => by
    have il : i < ρ.length := by
      by_cases z : i < ρ.length
      · exact z
      · rw [List.getElem?_eq_none (by rw [wb_length]; omega)] at h; cases h
    exact ⟨_, List.getElem?_eq_getElem il⟩
  -- what is not handed on stands
  have notH : ∀ {i : Nat} {s : Sl} {b : Addr}, ρ[i]? = some s → s.owned = true → σ[i]? = some (some (V.ref b)) → (∀ j : Nat, as[j]? ≠ some (Ar.sl i)) → ¬ Handed ρ σ H as b ∧ ∀ dx, H dx = some (.own b) → ¬ Handed ρ σ H as dx := fun {i s b} h ho hb hno => by
    obtain ⟨o, m1, m2⟩ := R.get h
    rw [hb] at m1
    cases m1
    obtain ⟨b', e', q⟩ := m2.owned ho
    cases e'
    obtain ⟨⟨ob, w1, w2⟩, _⟩ := q.at
    refine ⟨fun z => ?_, fun dx hdx z => ?_⟩
    · obtain ⟨j, i', c, t, z1, z2, z3, z4, _, z5⟩ := handed_facts R z
      rcases z5 with z5 | z5
      · subst z5
        have := R.ap i i' b s t h z2 ho z3 hb z4
        subst this
        exact hno j z1
      · rw [w1] at z5
        cases z5
        exact w2
    · obtain ⟨j, i', c, t, z1, z2, z3, z4, _, z5⟩ := handed_facts R z
      rcases z5 with z5 | z5
      · subst z5
        obtain ⟨o', y1, y2⟩ := R.get z2
        rw [z4] at y1
        cases y1
        obtain ⟨c', e', q'⟩ := y2.owned z3
        cases e'
        obtain ⟨⟨ob', v1, v2⟩, _⟩ := q'.at
        rw [hdx] at v1
        cases v1
        exact v2
      · rw [hdx] at z5
        cases z5
        have := R.ap i i' b s t h z2 ho z3 hb z4
        subst this
        exact hno j z1
  refine ⟨fun i s h m => ?_, ⟨Rc.gh, fun b o h => Rc.fh _ _ (foF h), fun b o h => Rc.fg _ _ (foF h), .of_get (by rw [wb_length, R.len]) fun i o t h1 h2 => ?_, fun i k b s t h1 h2 o1 o2 e1 e2 => ?_⟩, fun v s hv => ⟨?_, hv.2.1, fun ho b i t ev ht hto he => ?_⟩⟩
  · rcases look h with ⟨ho, j, v, s', k1, k2, k3, k4, k5, k6⟩ | ⟨k1, k2⟩
    · obtain ⟨s2, n1, n2⟩ := kp j s k6 m
      rw [k4] at n1
      cases n1
      exact ⟨_, k5, n2⟩
    · exact ⟨_, k1, m⟩
  · obtain ⟨s, hs⟩ := old_of h2
    rcases look hs with ⟨ho, j, v, s', k1, k2, k3, k4, k5, k6⟩ | ⟨k1, k2⟩
    · rw [k5] at h2
      cases h2
      rw [k3] at h1
      cases h1
      obtain ⟨o', m1, m2⟩ := Rc.get k4
      rw [k2] at m1
      cases m1
      cases m2 with
      | no => exact .no
      | fz r => exact .fz r
      | own q => exact .own (owF q)
    · rw [k1] at h2
      cases h2
      obtain ⟨o', m1, m2⟩ := R.get hs
      rw [h1] at m1
      cases m1
      cases m2 with
      | no => exact .no
      | fz r => exact .fz (r.mono g)
      | @own b _ q =>
        have ho := q.at.2.2.2
        have nh := notH hs ho h1 (k2 ho)
        cases q with
        | ow l1 l2 l3 l4 =>
          have a1 := still l1 l3 nh.1
          exact .own (.ow a1.1 (l2.mono g) a1.2.1 l4)
        | oo l1 l2 l3 l4 l5 l6 l7 =>
          have a1 := still l1 l4 nh.1
          have a2 := still l2 l5 (nh.2 _ l2)
          exact .own (.oo a1.1 a2.1 (l3.mono g) a1.2.1 a2.2.1 l6 l7)
  · have own_of : ∀ {i : Nat} {t : Sl}, (wb ρ as ss)[i]? = some t → t.owned = true → ∃ s, ρ[i]? = some s ∧ s.owned = true := fun {i t} h ho => by
      obtain ⟨s, hs⟩ := old_of h
      rcases look hs with ⟨ho', _⟩ | ⟨k1, _⟩
      · exact ⟨s, hs, ho'⟩
      · rw [k1] at h
        cases h
        exact ⟨_, hs, ho⟩
    obtain ⟨s', m1, m2⟩ := own_of h1 o1
    obtain ⟨t', m3, m4⟩ := own_of h2 o2
    exact R.ap i k b s' t' m1 m3 m2 m4 e1 e2
  · cases hv.1 with
    | no => exact .no
    | fz r => exact .fz r
    | own q => exact .own (owF q)
  · obtain ⟨s0, hs0⟩ := old_of ht
    rcases look hs0 with ⟨ho', j, v', s', k1, k2, k3, k4, k5, k6⟩ | ⟨k1, k2⟩
    · rw [k5] at ht
      cases ht
      rw [k3] at he
      cases he
      exact hv.2.2 ho b j t ev k4 hto k2
    · rw [k1] at ht
      cases ht
      have nh := notH hs0 hto he (k2 hto)
      obtain ⟨o', m1, m2⟩ := R.get hs0
      rw [he] at m1
      cases m1
      obtain ⟨b', e', q⟩ := m2.owned hto
      cases e'
      obtain ⟨⟨ob, w1, w2⟩, w3, _⟩ := q.at
      have a1 := still w1 w3 nh.1
      subst ev
      obtain ⟨b2, e2, q2⟩ := hv.1.owned ho
      cases e2
      rw [q2.at.2.2.1] at a1
      cases a1.2.2
/-- a def's promise at a call -/
theorem app_core {W : WX} {F : Mo Sl} {more : List D} {as : List Ar} {vs ws : List V} {m : Nat} {Q : VK} (R : Rel e Fo G σ H ρ) (r : ArRs e G σ vs as) (rd : DRs e G ws more) (hm : as.length + more.length = m) (p : Post e W ValL Fo G σ ρ (appF F more as ρ) Q) : spD e m F (vs ++ ws) H Q (WE W σ) := by
  refine ⟨by rw [List.length_append, r.length, rd.length]; exact hm, ?_⟩
  unfold appF at p
  by_cases n : (ownIx ρ as).Nodup
  case neg =>
    rw [if_neg n] at p
    exact p.elim
  rw [if_pos n] at p
  refine ⟨outF G H ρ σ as, G, _, R.args r n ws more rd, ?_⟩
  cases q : F (argS ρ as ++ more.map Sl.fz) with
  | ok ss s =>
    rw [q] at p
    intro G' H' v g k Rc hv
    obtain ⟨f1, f2, f3⟩ := R.called r n rd g k Rc
    exact p G' H' v g f1 f2 (f3 v s hv)
  | exc ss c fs =>
    rw [q] at p
    intro G' H' cls od g k Rc x
    obtain ⟨f1, f2, f3⟩ := R.called r n rd g k Rc
    exact p G' H' cls od g f1 f2 x
  | bad => rw [q] at p; exact p.elim
end
/-- a def that may be called by n things behind which its defaults stand -/
structure CallOk (P : Program) (w : World) (e : Ev) (base : Heap) (k : Nat) (f : Addr) (ps : List Str) (F : Mo Sl) : Prop where
  ex : ∃ fd, FnOk P w e.K e.mg base (L2.CX P w) k f fd ps (spD e ps.length F) ∧ ∀ more : List D, True
section
variable {X : Cx} {e : Ev} {W : WX} {a b c : Expr} {es : List Expr} {pos p : Pos} {x : Str} {k : Nat} {f : Addr} {fd : FuncData} {ps : List Str} {F : Mo Sl} {dvs : List V} {ds : List Value} {more : List D} {fa : Mo (List Ar)}
theorem call_core {σ : St} {H : Hp} {Q : VK} {m : Nat} (hd : ∀ G, DRs e G dvs more) (hm : ∀ ρ ρ' as, fa ρ = .ok ρ' as → as.length + more.length = m) (h : tX e W (callX F more fa) σ H Q) : tCallSD (spD e m F) dvs (WE W) (tA e W fa) σ H Q := by
  obtain ⟨Fo, G0, ρ, R, p⟩ := h
  have hp := p
  refine ⟨Fo, G0, ρ, R, ?_⟩
  unfold callX Mo.bind at p
  cases q : fa ρ with
  | ok ρ1 as =>
    rw [q] at p
    intro G1 H1 vs g1 k1 R1 r1
    exact app_core R1 r1 (hd G1) (hm _ _ _ q) (p.from g1 k1)
  | exc ρ1 c fs => rw [q] at p; exact p
  | bad => rw [q] at p; exact p
theorem xx_call {more : List D} {m : Nat} (C : EC X e W) (Fk : FnOk X.prog X.w X.K X.mg X.base (L2.CX X.prog X.w) k f fd ps (spD e m F)) (hr : Room k X.A) (hg : Gl X x) (hm : X.mg x = some (.ref f)) (hk : PySem.W.keepIn X.K (.ref f) = true) (hb : Binds X.K fd ps ds) (hd : Vals dvs ds) (hdd : ∀ G, DRs e G dvs more)
    (ha : PA X (a :: es) (tA e W fa)) (hn : ∀ ρ ρ' as, fa ρ = .ok ρ' as → as.length + more.length = m) (hdb : (x == ("__debug__" : Str)) = false := by decide) (he : starEach (a :: es) X.env = (false, eval a X.env) :: starEach es X.env := by rfl) (hpl : (backTo pos (starEach es X.env)).any (·.1) = false := by rfl) :
    PE X (.Call (.Name x p) (a :: es) [] pos) (tX e W (callX F more fa)) := (pe_callSD Fk hr hg hm hk hb hd (fun σ => passAt C.tk σ) ha hdb he hpl).imp fun _ _ _ h => call_core hdd hn h
end
end L2.WD
/-! The data layer, part 9: methods, makers, attributes, raise, try. -/
namespace L2.WD
open PySem PySem.Spec PyProof.Rows

/-! ### lengths of argument lists -/
def LenA (f : Mo (List Ar)) (n : Nat) : Prop := ∀ ρ ρ' as, f ρ = .ok ρ' as → as.length = n
theorem lenA_nil : LenA nilA 0 := fun ρ ρ' as h => by cases h; rfl
theorem lenA_cons {f : Mo Ar} {g : Mo (List Ar)} {n : Nat} (h : LenA g n) : LenA (consA f g) (n + 1) := fun ρ ρ' as q => by
  unfold consA Mo.bind at q
  cases q1 : f ρ with
  | ok ρ1 a =>
    simp only [q1] at q
    cases q2 : g ρ1 with
    | ok ρ2 as2 =>
      simp only [q2] at q
      cases q
      rw [List.length_cons, h _ _ _ q2]
    | exc ρ2 c fs => simp only [q2] at q; cases q
    | bad => simp only [q2] at q; cases q
  | exc ρ1 c fs => simp only [q1] at q; cases q
  | bad => simp only [q1] at q; cases q

/-! ### methods -/
/-- an instance that is the receiver -/
def recOf (ρ : List Sl) : Ar → Option (Nat × List (Str × D))
  | .vl (.obj c fs) => some (c, fs)
  | .sl i => (match ρ[i]? with
    | some (.fz (.obj c fs)) => some (c, fs)
    | some (.oo _ c fs) => some (c, fs)
    | _ => none)
  | _ => none
def methX (c : Nat) (m : Str) (F : Mo Sl) (more : List D) (fo : Mo Ar) (fa : Mo (List Ar)) : Mo Sl := Mo.bind fo fun o ρ => match recOf ρ o with
  | some (c', fs) => if c' = c ∧ (fs.lookup m).isNone = true then Mo.bind fa (fun as => appF F more (o :: as)) ρ else .bad
  | none => .bad
section
variable {e : Ev} {W : WX} {Fo G H : Hp} {σ : St} {ρ : List Sl}
/-- an instance that is read -/
theorem rec_of {a : Ar} {v : V} {c : Nat} {fs : List (Str × D)} (R : Rel e Fo G σ H ρ) (r : ArR e Fo G σ H ρ v a) (h : recOf ρ a = some (c, fs)) : ∃ (b dx : Addr) (ws : List (Str × V)), v = .ref b ∧ H b = some (.ins (e.ca c) dx ws) ∧ DRf e G ws fs := by
  cases a with
  | vl d =>
    cases d with
    | obj c' fs' =>
      cases h
      have r' : DR e G v (.obj c fs) := r
      cases r' with
      | obj k1 k2 k3 => exact ⟨_, _, _, rfl, R.gh _ _ k1, k3⟩
    | _ => cases h
  | sl i =>
    have hs : σ[i]? = some (some v) := r
    simp only [recOf] at h
    cases q : ρ[i]? with
    | none => simp only [q] at h; cases h
    | some s =>
      obtain ⟨o, h1, h2⟩ := R.get q
      rw [hs] at h1
      cases h1
      simp only [q] at h
      cases s with
      | fz d =>
        cases d with
        | obj c' fs' =>
          cases h
          cases h2 with
          | fz r' =>
            cases r' with
            | obj k1 k2 k3 => exact ⟨_, _, _, rfl, R.gh _ _ k1, k3⟩
          | own r' => cases r'
        | _ => cases h
      | oo p c' fs' =>
        cases h
        cases h2 with
        | own r' =>
          cases r' with
          | oo k1 k2 k3 k4 k5 k6 k7 => exact ⟨_, _, _, rfl, k1, k3⟩
      | _ => cases h
end
section
variable {X : Cx} {e : Ev} {W : WX} {a o b c : Expr} {es : List Expr} {pos p apos : Pos} {x m : Str} {k : Nat} {f : Addr} {fd : FuncData} {ps : List Str} {F : Mo Sl} {dvs : List V} {ds : List Value} {more : List D} {fa : Mo (List Ar)} {fo : Mo Ar}
def tMethS (C : Addr) (m : Str) (sp : Sp) (dvs : List V) (E : St → XK) (ta : TE) (t : TA) : TE := fun σ H Q => ta σ H fun x H1 => ∃ a dx fs, x = .ref a ∧ H1 a = some (.ins C dx fs) ∧ fs.lookup m = none ∧ t σ H1 fun vs H2 => sp (x :: (vs ++ dvs)) H2 Q (E σ)
theorem pe_methSD {C : Addr} {sp : Sp} {E : St → XK} {ta : TE} {t : TA} {pl : Sem Bool} {CX : CXT} (he : PE X o ta) (c : Cls X.K C) (hm : Meth X.K C m f) (F : FnOk X.prog X.w X.K X.mg X.base CX k f fd ps sp) (hr : Room k X.A) (hb : Binds X.K fd ps ds) (hd : Vals dvs ds) (hx : ∀ σ, PassesAt CX X σ (E σ)) (ha : PA X (a :: es) t)
    (hst : starEach (a :: es) X.env = (false, eval a X.env) :: starEach es X.env := by rfl) (hpl : (backTo pos (starEach es X.env)).any (·.1) = false := by rfl)
    (ht : eval (.Call (.Attribute o m apos) (a :: es) [] pos) X.env = (do
      let ov ← eval o X.env
      standAt apos.atName
      let (f, first) ← holding [ov] (getMethod ov m pl)
      callWith pos f first (backTo pos (starEach (a :: es) X.env)) (backToKw pos (keywordEach [] X.env))) := by rfl) :
    PE X (.Call (.Attribute o m apos) (a :: es) [] pos) (tMethS C m sp dvs E ta t) := by
  refine ⟨fun pins s σ H Q I h => ?_⟩
  refine PySem.W.methodCall_KW (pl := pl) (thn (he.run pins s σ H _ I h) fun u s1 ⟨x, H1, I1, rx, a, dx, fs, ex, ea, l, q⟩ => ?_) ht
  subst ex
  obtain rfl : u = Value.ref a := rx
  refine getmeth_ok I1 ea c hm l ?_
  refine PySem.W.callWith_K (first := [.ref a]) (h₀ := X.base) I.ok.mod.kin hm.kp (thn (ha.run pos pins s1 σ H1 _ I1 q) fun us s2 ⟨vs, H2, I2, r, q2⟩ => ⟨I2.kIn, ?_⟩) hst hpl
  exact run_fnSD (us := .ref a :: us) (vs := .ref a :: vs) F hr hb hd (hx σ) I2 (.cons rfl r) q2
theorem pe_methSD0 {C : Addr} {sp : Sp} {E : St → XK} {ta : TE} {pl : Sem Bool} {CX : CXT} (he : PE X o ta) (c : Cls X.K C) (hm : Meth X.K C m f) (F : FnOk X.prog X.w X.K X.mg X.base CX k f fd ps sp) (hr : Room k X.A) (hb : Binds X.K fd ps ds) (hd : Vals dvs ds) (hx : ∀ σ, PassesAt CX X σ (E σ))
    (ht : eval (.Call (.Attribute o m apos) [] [] pos) X.env = (do
      let ov ← eval o X.env
      standAt apos.atName
      let (f, first) ← holding [ov] (getMethod ov m pl)
      callWith pos f first (backTo pos (starEach [] X.env)) (backToKw pos (keywordEach [] X.env))) := by rfl) :
    PE X (.Call (.Attribute o m apos) [] [] pos) (tMethS C m sp dvs E ta tNil) := by
  refine ⟨fun pins s σ H Q I h => ?_⟩
  refine PySem.W.methodCall_KW (pl := pl) (thn (he.run pins s σ H _ I h) fun u s1 ⟨x, H1, I1, rx, a, dx, fs, ex, ea, l, q⟩ => ?_) ht
  subst ex
  obtain rfl : u = Value.ref a := rx
  refine getmeth_ok I1 ea c hm l ?_
  exact PySem.W.callWith_K0 (first := [.ref a]) I1.kIn hm.kp (run_fnSD (us := [.ref a]) (vs := [.ref a]) F hr hb hd (hx σ) I1 (.cons rfl .nil) q)
theorem meth_core {c : Nat} {n : Nat} {σ : St} {H : Hp} {Q : VK} {t : TA} (hT : ∀ σ H Q, tA e W fa σ H Q → t σ H Q) (hd : ∀ G, DRs e G dvs more) (hm : LenA fa n) (h : tX e W (methX c m F more fo fa) σ H Q) : tMethS (e.ca c) m (spD e (n + more.length + 1) F) dvs (WE W) (tO e W fo) t σ H Q := by
  obtain ⟨Fo, G0, ρ, R, p⟩ := h
  refine tG.mono (Post.bind R p) fun v H1 ⟨G1, ρ1, o, g1, R1, r1, p1⟩ => ?_
  cases q1 : recOf ρ1 o with
  | none => simp only [q1] at p1; exact p1.elim
  | some cf =>
    obtain ⟨c', fs⟩ := cf
    simp only [q1] at p1
    by_cases k : c' = c ∧ (fs.lookup m).isNone = true
    case neg =>
      rw [if_neg k] at p1
      exact p1.elim
    rw [if_pos k] at p1
    obtain ⟨rfl, hl⟩ := k
    obtain ⟨b, dx, ws, rfl, k1, k2⟩ := rec_of R1 r1 q1
    refine ⟨b, dx, ws, rfl, k1, k2.lookup_none (Option.isNone_iff_eq_none.mp hl), hT _ _ _ ?_⟩
    refine ⟨Fo, G1, ρ1, R1, ?_⟩
    unfold Mo.bind at p1
    cases q : fa ρ1 with
    | ok ρ2 as =>
      rw [q] at p1
      intro G2 H2 vs g2 k2' R2 r2
      have ra : ArRs e G2 σ (.ref b :: vs) (o :: as) := .cons (r1.mono g2) r2
      exact app_core R2 ra (hd G2) (by rw [List.length_cons, hm _ _ _ q]; omega) (p1.from g2 k2')
    | exc ρ2 c fs => rw [q] at p1; exact p1
    | bad => rw [q] at p1; exact p1
theorem xx_meth {pl : Sem Bool} {c : Nat} {n : Nat} (C : EC X e W) (hc : Cls e.K (e.ca c)) (hm : Meth e.K (e.ca c) m f) (Fk : FnOk X.prog X.w X.K X.mg X.base (L2.CX X.prog X.w) k f fd ps (spD e (n + more.length + 1) F)) (hr : Room k X.A) (hb : Binds X.K fd ps ds) (hd : Vals dvs ds) (hdd : ∀ G, DRs e G dvs more)
    (ho : PE X o (tO e W fo)) (ha : PA X (a :: es) (tA e W fa)) (hn : LenA fa n) (hst : starEach (a :: es) X.env = (false, eval a X.env) :: starEach es X.env := by rfl) (hpl : (backTo pos (starEach es X.env)).any (·.1) = false := by rfl)
    (ht : eval (.Call (.Attribute o m apos) (a :: es) [] pos) X.env = (do
      let ov ← eval o X.env
      standAt apos.atName
      let (f, first) ← holding [ov] (getMethod ov m pl)
      callWith pos f first (backTo pos (starEach (a :: es) X.env)) (backToKw pos (keywordEach [] X.env))) := by rfl) :
    PE X (.Call (.Attribute o m apos) (a :: es) [] pos) (tX e W (methX c m F more fo fa)) :=
  (pe_methSD (pl := pl) ho (by rw [C.K]; exact hc) (by rw [C.K]; exact hm) Fk hr hb hd (fun σ => passAt C.tk σ) ha hst hpl ht).imp fun _ _ _ h => meth_core (fun _ _ _ z => z) hdd hn h
theorem xx_meth0 {pl : Sem Bool} {c : Nat} (C : EC X e W) (hc : Cls e.K (e.ca c)) (hm : Meth e.K (e.ca c) m f) (Fk : FnOk X.prog X.w X.K X.mg X.base (L2.CX X.prog X.w) k f fd ps (spD e (0 + more.length + 1) F)) (hr : Room k X.A) (hb : Binds X.K fd ps ds) (hd : Vals dvs ds) (hdd : ∀ G, DRs e G dvs more)
    (ho : PE X o (tO e W fo))
    (ht : eval (.Call (.Attribute o m apos) [] [] pos) X.env = (do
      let ov ← eval o X.env
      standAt apos.atName
      let (f, first) ← holding [ov] (getMethod ov m pl)
      callWith pos f first (backTo pos (starEach [] X.env)) (backToKw pos (keywordEach [] X.env))) := by rfl) :
    PE X (.Call (.Attribute o m apos) [] [] pos) (tX e W (methX c m F more fo nilA)) :=
  (pe_methSD0 (pl := pl) ho (by rw [C.K]; exact hc) (by rw [C.K]; exact hm) Fk hr hb hd (fun σ => passAt C.tk σ) ht).imp fun _ _ _ h => meth_core (fun _ _ _ ⟨Fo, G, ρ, R, p⟩ => p.here R .nil) hdd lenA_nil h

/-! ### an instance is made -/
theorem run_makeS {CX : CXT} {C : Addr} {sp : Sp} {E : XK} {pins : List (Addr × Obj)} {σ : St} {H : Hp} {s : Shared} {Q : VK} {us : List Value} {vs : List V} (M : Mk X.K C f) (F : FnOk X.prog X.w X.K X.mg X.base CX k f fd ps sp) (hr : Room (k + 1) X.A) (hb : Binds X.K fd ps ds) (hd : Vals dvs ds)
    (hx : PassesAt CX X σ E) (I : Inv X pins σ H s) (r : Vals vs us)
    (h : ∀ x dx, H x = none → H dx = none → dx ≠ x → sp (.ref x :: (vs ++ dvs)) (upd (upd H dx (.own x)) x (.ins C dx [])) (fun v H2 => v = .non ∧ Q (.ref x) H2) E) :
    wpAny (model X.prog X.w) X.A (call (.ref C) us) (EP X pins σ Q) X.xe s := by
  have hq := h (s.heap.objs.size + 1) s.heap.objs.size (I.hok.fresh (Nat.le_succ _)) (I.hok.fresh (Nat.le_refl _)) (Nat.ne_of_lt (Nat.lt_succ_self _))
  have I2 := Inv.made (C := C) I
  have r2 : Vals (V.ref (s.heap.objs.size + 1) :: (vs ++ dvs)) (Value.ref (s.heap.objs.size + 1) :: (us ++ ds)) := .cons rfl (r.append hd)
  have hl : (Value.ref (s.heap.objs.size + 1) :: us ++ ds).length = ps.length := by
    have e := r2.length
    rw [F.len _ _ _ _ hq] at e
    exact e.symm
  refine wpAny_call (make_map (f := f) I.kIn M.makes M.init (beq_iff_eq.mp M.fn) (codeAny_mono (F.run _ X.stack _ _ ⟨Value.ref (s.heap.objs.size + 1) :: us, []⟩ (Value.ref (s.heap.objs.size + 1) :: (us ++ ds)) _ _ E (hr.make C us [])
    (I2.env0.make C us []) (hb _ (Value.ref (s.heap.objs.size + 1) :: us) I2.kIn hl) r2 hq) fun r s' hq' => ?_))
  cases r with
  | error e => exact hx pins _ _ e s' I2 hq'
  | ok fl =>
    cases fl with
    | ret u =>
      obtain ⟨v, H', I3, rv, ev, q3⟩ := I2.after hq'
      subst ev
      exact ⟨rv, ⟨V.ref (s.heap.objs.size + 1), H', I3, rfl, q3⟩⟩
    | next => exact False.elim hq'
    | brk => exact False.elim hq'
    | cont => exact False.elim hq'
def tMakeS (C : Addr) (sp : Sp) (dvs : List V) (E : St → XK) (t : TA) : TE := fun σ H Q => t σ H fun vs H1 => ∀ x dx, H1 x = none → H1 dx = none → dx ≠ x → sp (.ref x :: (vs ++ dvs)) (upd (upd H1 dx (.own x)) x (.ins C dx [])) (fun v H2 => v = .non ∧ Q (.ref x) H2) (E σ)
theorem pe_makeS {CX : CXT} {C : Addr} {sp : Sp} {E : St → XK} {t : TA} (M : Mk X.K C f) (F : FnOk X.prog X.w X.K X.mg X.base CX k f fd ps sp) (hr : Room (k + 1) X.A) (hg : Gl X x) (hm : X.mg x = some (.ref C)) (hb : Binds X.K fd ps ds) (hd : Vals dvs ds) (hx : ∀ σ, PassesAt CX X σ (E σ))
    (ha : PA X (a :: es) t) (hdb : (x == ("__debug__" : Str)) = false := by decide) (he : starEach (a :: es) X.env = (false, eval a X.env) :: starEach es X.env := by rfl) (hpl : (backTo pos (starEach es X.env)).any (·.1) = false := by rfl) :
    PE X (.Call (.Name x p) (a :: es) [] pos) (tMakeS C sp dvs E t) := by
  refine ⟨fun pins s σ H Q I h => ?_⟩
  refine wpAny_Call_Name_kw (ld_glob I hg hm ?_ hdb)
  refine PySem.W.callWith_K (h₀ := X.base) I.ok.mod.kin M.kp (thn (ha.run pos pins s σ H _ I h) fun us s1 ⟨vs, H1, I1, r, q⟩ => ⟨I1.kIn, ?_⟩) he hpl
  exact run_makeS M F hr hb hd (hx σ) I1 r q
theorem pe_makeS0 {CX : CXT} {C : Addr} {sp : Sp} {E : St → XK} (M : Mk X.K C f) (F : FnOk X.prog X.w X.K X.mg X.base CX k f fd ps sp) (hr : Room (k + 1) X.A) (hg : Gl X x) (hm : X.mg x = some (.ref C)) (hb : Binds X.K fd ps ds) (hd : Vals dvs ds) (hx : ∀ σ, PassesAt CX X σ (E σ))
    (hdb : (x == ("__debug__" : Str)) = false := by decide) : PE X (.Call (.Name x p) [] [] pos) (tMakeS C sp dvs E tNil) := by
  refine ⟨fun pins s σ H Q I h => ?_⟩
  refine wpAny_Call_Name_kw (ld_glob I hg hm ?_ hdb)
  exact PySem.W.callWith_K0 I.kIn M.kp (run_makeS (us := []) M F hr hb hd (hx σ) I .nil h)
def takeR {α : Type} (n : Nat) (i : Nat) (r : Re Sl) : Re Sl := match r with
  | .ok ρ (.fz .non) => (match ρ[i]? with
    | some (.oo _ c fs) => .ok (ρ.take n) (.oo false c fs)
    | _ => .bad)
  | .exc ρ c fs => .exc (ρ.take n) c fs
  | _ => .bad
def mkX (c : Nat) (F : Mo Sl) (more : List D) (fa : Mo (List Ar)) : Mo Sl := Mo.bind fa fun as ρ => takeR (α := Unit) ρ.length ρ.length (appF F more (.sl ρ.length :: as) (ρ ++ [.oo false c []]))
end
section
variable {e : Ev} {W : WX} {Fo G H : Hp} {σ : St} {ρ : List Sl}
theorem Rel.push {v : V} {s : Sl} (R : Rel e Fo G σ H ρ) (r : Val e Fo G σ H ρ v s) : Rel e Fo G (σ ++ [some v]) H (ρ ++ [s]) := by
  have hl := R.len
  refine ⟨R.gh, R.fh, R.fg, .of_get (by simp [hl]) fun i o t h1 h2 => ?_, fun i j b t u h1 h2 o1 o2 e1 e2 => ?_⟩
  · by_cases c : i < ρ.length
    · rw [List.getElem?_append_left (by omega)] at h1
      rw [List.getElem?_append_left c] at h2
      obtain ⟨o', k1, k2⟩ := R.get h2
      rw [h1] at k1
      cases k1
      exact k2
    · rw [List.getElem?_append_right (by omega)] at h1 h2
      rw [hl] at h1
      cases q : i - ρ.length with
      | zero =>
        rw [q] at h1 h2
        cases h1
        cases h2
        exact r.1
      | succ n =>
        rw [q] at h1
        simp at h1
  · by_cases c : i < ρ.length
    · rw [List.getElem?_append_left (by omega)] at e1
      rw [List.getElem?_append_left c] at h1
      by_cases c2 : j < ρ.length
      · rw [List.getElem?_append_left (by omega)] at e2
        rw [List.getElem?_append_left c2] at h2
        exact R.ap i j b t u h1 h2 o1 o2 e1 e2
      · rw [List.getElem?_append_right (by omega)] at e2 h2
        rw [hl] at e2
        cases q : j - ρ.length with
        | zero =>
          rw [q] at e2 h2
          cases e2
          cases h2
          exact absurd e1 (r.2.2 o2 b i t rfl h1 o1)
        | succ n =>
          rw [q] at h2
          simp at h2
    · rw [List.getElem?_append_right (by omega)] at e1 h1
      rw [hl] at e1
      cases q : i - ρ.length with
      | zero =>
        rw [q] at e1 h1
        cases e1
        cases h1
        by_cases c2 : j < ρ.length
        · rw [List.getElem?_append_left (by omega)] at e2
          rw [List.getElem?_append_left c2] at h2
          exact absurd e2 (r.2.2 o1 b j u rfl h2 o2)
        · rw [List.getElem?_append_right (by omega)] at h2
          cases q2 : j - ρ.length with
          | zero => omega
          | succ n =>
            rw [q2] at h2
            simp at h2
      | succ n =>
        rw [q] at h1
        simp at h1
theorem Rel.pop {o : Option V} (R : Rel e Fo G (σ ++ [o]) H ρ) : Rel e Fo G σ H (ρ.take σ.length) := by
  have hl : σ.length + 1 = ρ.length := by simpa using R.len
  have lt : ∀ {i : Nat} {s : Sl}, (ρ.take σ.length)[i]? = some s → ρ[i]? = some s ∧ (σ ++ [o])[i]? = σ[i]? := fun {i s} h => by
    by_cases c : i < σ.length
    · rw [List.getElem?_take_of_lt c] at h
      exact ⟨h, List.getElem?_append_left c⟩
    · rw [List.getElem?_eq_none (by simp; omega)] at h
      cases h
  refine ⟨R.gh, R.fh, R.fg, .of_get (by simp; omega) fun i o t h1 h2 => ?_, fun i j b t u h1 h2 o1 o2 e1 e2 => ?_⟩
  · obtain ⟨k1, k2⟩ := lt h2
    obtain ⟨o', m1, m2⟩ := R.get k1
    rw [k2, h1] at m1
    cases m1
    exact m2
  · obtain ⟨k1, k2⟩ := lt h1
    obtain ⟨k3, k4⟩ := lt h2
    exact R.ap i j b t u k1 k3 o1 o2 (by rw [k2]; exact e1) (by rw [k4]; exact e2)
theorem pop_val {v : V} {s : Sl} (R : Rel e Fo G (σ ++ [some v]) H ρ) (h : ρ[σ.length]? = some s) (m : s.mine = false) : Val e Fo G σ H (ρ.take σ.length) v s := by
  obtain ⟨o, k1, k2⟩ := R.get h
  have hs : (σ ++ [some v])[σ.length]? = some (some v) := by simp
  rw [hs] at k1
  cases k1
  refine ⟨k2, m, fun ho b i t ev ht hto he => ?_⟩
  subst ev
  by_cases c : i < σ.length
  · rw [List.getElem?_take_of_lt c] at ht
    have := R.ap i σ.length b t s ht h hto ho (by rw [List.getElem?_append_left c]; exact he) hs
    omega
  · rw [List.getElem?_eq_none (by omega)] at he
    cases he
theorem ArRs.push {vs : List V} {o : Option V} : ∀ {vs : List V} {as : List Ar}, ArRs e G σ vs as → ArRs e G (σ ++ [o]) vs as
  | _, _, .nil => .nil
  | _, _, @ArRs.cons _ _ _ v a _ _ h r => .cons (by
    cases a with
    | vl d => exact h
    | sl i =>
      have h' : σ[i]? = some (some v) := h
      show (σ ++ [o])[i]? = some (some v)
      have c : i < σ.length := by
        by_cases c : i < σ.length
        · exact c
        · rw [List.getElem?_eq_none (by omega)] at h'
          cases h'
      rw [List.getElem?_append_left c]
      exact h') (ArRs.push (vs := []) r)
theorem keep_push {s : Sl} {ρ' : List Sl} (k : Keep (ρ ++ [s]) ρ') : Keep ρ (ρ'.take ρ.length) := fun i t h m => by
  have c : i < ρ.length := by
    by_cases c : i < ρ.length
    · exact c
    · rw [List.getElem?_eq_none (by omega)] at h
      cases h
  obtain ⟨t', k1, k2⟩ := k i t (by rw [List.getElem?_append_left c]; exact h) m
  exact ⟨t', by rw [List.getElem?_take_of_lt c]; exact k1, k2⟩
theorem make_core {F : Mo Sl} {more : List D} {fa : Mo (List Ar)} {dvs : List V} {c n : Nat} {Q : VK} {t : TA} (hT : ∀ σ H Q, tA e W fa σ H Q → t σ H Q) (hd : ∀ G, DRs e G dvs more) (hm : LenA fa n) (h : tX e W (mkX c F more fa) σ H Q) : tMakeS (e.ca c) (spD e (n + more.length + 1) F) dvs (WE W) t σ H Q := by
  obtain ⟨Fo, G0, ρ, R, p⟩ := h
  refine hT _ _ _ ⟨Fo, G0, ρ, R, ?_⟩
  unfold mkX Mo.bind at p
  cases q : fa ρ with
  | exc ρ2 c fs => rw [q] at p; exact p
  | bad => rw [q] at p; exact p
  | ok ρ1 as =>
    rw [q] at p
    intro G1 H1 vs g1 k1 R1 r1 x dx nx nd ne
    have p1 : Post e W ValL Fo G1 σ ρ1 (takeR (α := Unit) ρ1.length ρ1.length (appF F more (.sl ρ1.length :: as) (ρ1 ++ [.oo false c []]))) Q := p.from g1 k1
    have nd' : (upd H1 dx (HO.own x)) x = none := by rw [upd_ne (Ne.symm ne)]; exact nx
    have R2 : Rel e Fo G1 σ (upd (upd H1 dx (.own x)) x (.ins (e.ca c) dx [])) ρ1 := (R1.lay nd).lay nd'
    have hx : (upd (upd H1 dx (HO.own x)) x (.ins (e.ca c) dx [])) x = some (.ins (e.ca c) dx []) := upd_same
    have hdx : (upd (upd H1 dx (HO.own x)) x (.ins (e.ca c) dx [])) dx = some (.own x) := by rw [upd_ne ne, upd_same]
    have vv : Val e Fo G1 σ (upd (upd H1 dx (.own x)) x (.ins (e.ca c) dx [])) ρ1 (.ref x) (.oo false c []) := by
      refine ⟨.own (.oo hx hdx .nil (R1.gnone nx) (R1.gnone nd) (R1.fnone nx) (R1.fnone nd)), rfl, fun _ b i u ev hu ho he => ?_⟩
      cases ev
      obtain ⟨o', m1, m2⟩ := R1.get hu
      rw [he] at m1
      cases m1
      obtain ⟨b', e', m3⟩ := m2.owned ho
      cases e'
      obtain ⟨⟨o2, m4, _⟩, _⟩ := m3.at
      rw [nx] at m4
      cases m4
    have R3 := R2.push vv
    have lσ : σ.length = ρ1.length := R1.len
    have ra : ArRs e G1 (σ ++ [some (V.ref x)]) (.ref x :: vs) (.sl ρ1.length :: as) := .cons (show (σ ++ [some (V.ref x)])[ρ1.length]? = _ by rw [← lσ]; simp) (ArRs.push (vs := []) r1)
    have key : Post e (fun cls od _ H => W cls od σ H) ValL Fo G1 (σ ++ [some (V.ref x)]) (ρ1 ++ [.oo false c []]) (appF F more (.sl ρ1.length :: as) (ρ1 ++ [.oo false c []])) (fun v H2 => v = .non ∧ Q (.ref x) H2) := by
      cases q2 : appF F more (.sl ρ1.length :: as) (ρ1 ++ [.oo false c []]) with
      | bad => rw [q2] at p1; exact p1
      | exc ρ3 c' fs =>
        rw [q2] at p1
        intro G3 H3 cls od g3 k3 R4 xx
        refine p1 G3 H3 cls od g3 (keep_push k3) ?_ xx
        have := R4.pop
        rw [lσ] at this
        exact this
      | ok ρ3 s =>
        rw [q2] at p1
        intro G3 H3 v g3 k3 R4 hv
        simp only [takeR] at p1
        cases s with
        | fz d =>
          cases d with
          | non =>
            simp only at p1
            cases q3 : ρ3[ρ1.length]? with
            | none => simp only [q3] at p1; exact p1.elim
            | some s' =>
              simp only [q3] at p1
              cases s' with
              | oo m c' fs =>
                refine ⟨?_, ?_⟩
                · cases hv.1 with
                  | fz r => cases r; rfl
                  | own r => cases r
                · have rp := R4.pop
                  rw [lσ] at rp
                  have q3' : ρ3[σ.length]? = some (.oo m c' fs) := by rw [lσ]; exact q3
                  refine p1 G3 H3 (.ref x) g3 (keep_push k3) rp ?_
                  -- the flag
                  obtain ⟨o', m1, m2⟩ := R4.get q3'
                  have hs : (σ ++ [some (V.ref x)])[σ.length]? = some (some (V.ref x)) := by simp
                  rw [hs] at m1
                  cases m1
                  cases m2 with
                  | own m3 =>
                    have m3' : OwR e Fo G3 H3 x (.oo false c' fs) := m3.flag (p := false)
                    refine ⟨.own m3', rfl, fun _ b i u ev hu ho he => ?_⟩
                    cases ev
                    by_cases c : i < σ.length
                    · rw [List.getElem?_take_of_lt (by omega)] at hu
                      have := R4.ap i σ.length x u (.oo m c' fs) hu q3' ho rfl (by rw [List.getElem?_append_left c]; exact he) hs
                      omega
                    · rw [List.getElem?_eq_none (by omega)] at he
                      cases he
              | _ => exact p1.elim
          | _ => exact p1.elim
        | _ => exact p1.elim
    have := app_core (W := fun cls od _ H => W cls od σ H) (m := n + more.length + 1) R3 ra (hd G1) (by rw [List.length_cons, hm _ _ _ q]; omega) key
    exact this
end
section
variable {X : Cx} {e : Ev} {W : WX} {a o b : Expr} {es : List Expr} {pos p apos : Pos} {x m : Str} {k n c : Nat} {f : Addr} {fd : FuncData} {ps : List Str} {F : Mo Sl} {dvs : List V} {ds : List Value} {more : List D} {fa : Mo (List Ar)} {fo : Mo Ar}
theorem xx_make (C : EC X e W) (M : Mk e.K (e.ca c) f) (Fk : FnOk X.prog X.w X.K X.mg X.base (L2.CX X.prog X.w) k f fd ps (spD e (n + more.length + 1) F)) (hr : Room (k + 1) X.A) (hg : Gl X x) (hm : X.mg x = some (.ref (e.ca c))) (hb : Binds X.K fd ps ds) (hd : Vals dvs ds) (hdd : ∀ G, DRs e G dvs more)
    (ha : PA X (a :: es) (tA e W fa)) (hn : LenA fa n) (hdb : (x == ("__debug__" : Str)) = false := by decide) (he : starEach (a :: es) X.env = (false, eval a X.env) :: starEach es X.env := by rfl) (hpl : (backTo pos (starEach es X.env)).any (·.1) = false := by rfl) :
    PE X (.Call (.Name x p) (a :: es) [] pos) (tX e W (mkX c F more fa)) := (pe_makeS (by rw [C.K]; exact M) Fk hr hg hm hb hd (fun σ => passAt C.tk σ) ha hdb he hpl).imp fun _ _ _ h => make_core (fun _ _ _ z => z) hdd hn h
theorem xx_make0 (C : EC X e W) (M : Mk e.K (e.ca c) f) (Fk : FnOk X.prog X.w X.K X.mg X.base (L2.CX X.prog X.w) k f fd ps (spD e (0 + more.length + 1) F)) (hr : Room (k + 1) X.A) (hg : Gl X x) (hm : X.mg x = some (.ref (e.ca c))) (hb : Binds X.K fd ps ds) (hd : Vals dvs ds) (hdd : ∀ G, DRs e G dvs more)
    (hdb : (x == ("__debug__" : Str)) = false := by decide) : PE X (.Call (.Name x p) [] [] pos) (tX e W (mkX c F more nilA)) := (pe_makeS0 (by rw [C.K]; exact M) Fk hr hg hm hb hd (fun σ => passAt C.tk σ) hdb).imp fun _ _ _ h => make_core (fun _ _ _ ⟨Fo, G, ρ, R, p⟩ => p.here R .nil) hdd lenA_nil h
end

/-! ### a field of one's own instance is stored -/
def putFD (f : Str) (d : D) : List (Str × D) → List (Str × D)
  | [] => [(f, d)]
  | (g, x) :: r => if g = f then (g, d) :: r else (g, x) :: putFD f d r
section
variable {e : Ev} {W : WX} {Fo G H : Hp} {σ : St} {ρ : List Sl}
theorem DRf.put {f : Str} {v : V} {d : D} (h : DR e G v d) : ∀ {ws : List (Str × V)} {fs : List (Str × D)}, DRf e G ws fs → DRf e G (putF f v ws) (putFD f d fs)
  | _, _, .nil => .cons h .nil
  | _, _, @DRf.cons _ _ g x ws dd fs h1 h2 => by
    unfold putF putFD
    by_cases c : g = f
    · rw [if_pos c, if_pos c]
      exact .cons h h2
    · rw [if_neg c, if_neg c]
      exact .cons h1 (DRf.put h h2)
theorem Rel.upd_obj {i c : Nat} {b dx : Addr} {m : Bool} {fs fs' : List (Str × D)} {ws ws' : List (Str × V)} (R : Rel e Fo G σ H ρ) (h : ρ[i]? = some (.oo m c fs)) (hv : σ[i]? = some (some (.ref b))) (hb : H b = some (.ins (e.ca c) dx ws)) (r : DRf e G ws' fs') : Rel e Fo G σ (upd H b (.ins (e.ca c) dx ws')) (ρ.set i (.oo m c fs')) := by
  obtain ⟨o, h1, h2⟩ := R.get h
  rw [hv] at h1
  cases h1
  cases h2 with
  | own q =>
    cases q with
    | @oo _ _ dx' ws0 _ k1 k2 k3 k4 k5 k6 k7 =>
      rw [hb] at k1
      cases k1
      have il : i < ρ.length := by
        by_cases z : i < ρ.length
        · exact z
        · rw [List.getElem?_eq_none (by omega)] at h
          cases h
      refine ⟨fun d o z => ?_, fun d o z => ?_, R.fg, .of_get (by rw [List.length_set, R.len]) fun j o s j1 j2 => ?_, fun j k d s t j1 j2 o1 o2 e1 e2 => ?_⟩
      · rw [upd_ne (ne_of_none z k4)]
        exact R.gh _ _ z
      · rw [upd_ne (ne_of_none z k6)]
        exact R.fh _ _ z
      · by_cases hj : j = i
        · subst hj
          rw [List.getElem?_set_self il] at j2
          cases j2
          rw [hv] at j1
          cases j1
          exact .own (.oo upd_same (by rw [upd_ne (fun z => by rw [z, hb] at k2; cases k2)]; exact k2) r k4 k5 k6 k7)
        · rw [List.getElem?_set_ne (Ne.symm hj)] at j2
          obtain ⟨o', e1, q⟩ := R.get j2
          rw [j1] at e1
          cases e1
          cases q with
          | no => exact .no
          | fz r => exact .fz r
          | @own b' _ q =>
            have ho := q.at.2.2.2
            have nb : b' ≠ b := fun z => hj (R.ap j i b' s (.oo m c fs) j2 h ho rfl j1 (by rw [z]; exact hv))
            cases q with
            | ow l1 l2 l3 l4 => exact .own (.ow (by rw [upd_ne nb]; exact l1) l2 l3 l4)
            | @oo _ _ dx _ _ l1 l2 l3 l4 l5 l6 l7 => exact .own (.oo (by rw [upd_ne nb]; exact l1) (by rw [upd_ne (fun z => by rw [z, hb] at l2; cases l2)]; exact l2) l3 l4 l5 l6 l7)
      · have own_of : ∀ {n : Nat} {u : Sl}, (ρ.set i (.oo m c fs'))[n]? = some u → u.owned = true → ∃ u', ρ[n]? = some u' ∧ u'.owned = true := fun {n u} hn ho => by
          by_cases hni : n = i
          · subst hni
            exact ⟨_, h, rfl⟩
          · rw [List.getElem?_set_ne (Ne.symm hni)] at hn
            exact ⟨u, hn, ho⟩
        obtain ⟨s', m1, m2⟩ := own_of j1 o1
        obtain ⟨t', m3, m4⟩ := own_of j2 o2
        exact R.ap j k _ s' t' m1 m3 m2 m4 e1 e2
theorem keep_oo {i c : Nat} {m : Bool} {xs ys : List (Str × D)} (h : ρ[i]? = some (.oo m c xs)) : Keep ρ (ρ.set i (.oo m c ys)) := fun j s hs hm => by
  by_cases hj : j = i
  · subst hj
    have il : j < ρ.length := by
      by_cases z : j < ρ.length
      · exact z
      · rw [List.getElem?_eq_none (by omega)] at h
        cases h
    rw [h] at hs
    cases hs
    exact ⟨_, List.getElem?_set_self il, hm⟩
  · rw [List.getElem?_set_ne (Ne.symm hj)]
    exact ⟨s, hs, hm⟩
end
def fldS (c i : Nat) (f : Str) (fd : Mo D) : So := bindS fd fun d ρ => match ρ[i]? with
  | some (.oo m c' fs) => if c' = c ∧ fs.length < 1000 then .nx (ρ.set i (.oo m c' (putFD f d fs))) else .bad
  | _ => .bad
section
variable {X : Cx} {e : Ev} {W : WX} {o v : Expr} {pos p' : Pos} {f : Str} {i c : Nat} {fd : Mo D}
theorem ss_fld (C : EC X e W) (hc : Cls e.K (e.ca c)) (hn : NoAttr e.K (e.ca c) f) (ho : PE X o (tVar i)) (hv : PE X v (tD e W fd)) (hs : swapsWith v (some (.Attribute o f p')) pos.line X.env = pure false := by rfl) : PS X (.Assign [.Attribute o f p'] v pos) (tS e W (fldS c i f fd)) :=
  (ps_fld ho hv hs).imp fun En σ H ⟨Fo, G, ρ, R, p⟩ => tG.mono (PostS.bind R p) fun y H1 ⟨G1, ρ1, d, g1, R1, r1, _, p1⟩ => by
    cases q : ρ1[i]? with
    | none => simp only [q] at p1; exact p1.elim
    | some s =>
      simp only [q] at p1
      cases s with
      | oo m c' fs =>
        simp only at p1
        by_cases k : c' = c ∧ fs.length < 1000
        · rw [if_pos k] at p1
          obtain ⟨rfl, hl⟩ := k
          obtain ⟨ov, h1, h2⟩ := R1.get q
          cases h2 with
          | own h3 =>
            cases h3 with
            | oo k1 k2 k3 k4 k5 k6 k7 =>
              refine ⟨_, h1, _, _, _, _, rfl, k1, by rw [C.K]; exact hc, by rw [C.K]; exact hn, by rw [k3.length]; exact hl, ?_⟩
              exact p1 G1 σ _ (L2.Same.refl _) (keep_oo q).toS (R1.upd_obj q h1 k1 (k3.put r1))
        · rw [if_neg k] at p1
          exact p1.elim
      | _ => exact p1.elim
end

/-! ### an attribute that is read -/
/-- what an exception's class must have for its fields to be read -/
def rAttr (K : PySem.W.Frag) (f : Str) : V → Hp → VK → Prop := fun x H Q => (∃ a C dx fs v, x = .ref a ∧ H a = some (.ins C dx fs) ∧ Cls K C ∧ NoAttr K C f ∧ fs.lookup f = some v ∧ Q v H) ∨
  ∃ a C dd fs v, x = .ref a ∧ H a = some (exh C a (some dd)) ∧ H dd = some (.xd fs) ∧ PySem.W.findIn K (.ref C) "__getattribute__" = some (some (.builtin "BaseException.__getattribute__")) ∧ PySem.W.findIn K (.ref C) "__getattr__" = some none ∧
    PySem.W.subIn K (.ref C) (.type "BaseException") = some true ∧ PySem.W.hasDictIn K C = true ∧ NoAttr K C f ∧ fs.lookup f = some v ∧ Q v H
theorem exh_at {P : Program} {w : World} {H : Hp} {h : Heap} {C a : Addr} {od : Option Addr} (hok : HOk P w H h) (e : H a = some (exh C a od)) : ∃ (oe : Obj) (vs : Array Value), h.get? a = some oe ∧ oe.cls = .ref C ∧ oe.dict = od ∧ oe.data = .fields vs := by
  have x : ObjOk P w H h a (.ext fun h => ∃ (oe : Obj) (vs : Array Value), h.get? a = some oe ∧ oe.cls = .ref C ∧ oe.dict = od ∧ oe.data = .fields vs) := hok a _ e
  exact x.1
theorem exh_ok {P : Program} {w : World} {H : Hp} {h : Heap} {C a : Addr} {od : Option Addr} {oe : Obj} {vs : Array Value} (e : h.get? a = some oe) (c : oe.cls = .ref C) (d : oe.dict = od) (z : oe.data = .fields vs) : ObjOk P w H h a (exh C a od) :=
  ⟨⟨oe, vs, e, c, d, z⟩, ⟨oe, e⟩, fun h1 h2 ⟨o1, v1, x1, x2, x3, x4⟩ k => ⟨o1, v1, k _ x1, x2, x3, x4⟩⟩
section
variable {X : Cx} {ev : Ev} {W : WX} {e : Expr} {pos : Pos} {f : Str} {ta : TE}
theorem pe_attr (he : PE X e ta) (hb : attributeBase e f X.env (eval e X.env) = eval e X.env := by rfl) : PE X (.Attribute e f pos) (fun σ H Q => ta σ H fun x H1 => rAttr X.K f x H1 Q) := by
  refine ⟨fun pins s σ H Q I h => ?_⟩
  refine attr_of hb (thn (he.run pins s σ H _ I h) fun u s1 ⟨x, H1, I1, rx, q⟩ => ?_)
  rcases q with ⟨a, C, dx, fs, v, ex, ea, c, n, l, q⟩ | ⟨a, C, dd, fs, v, ex, ea, ed, ga, gg, sb, hd, n, l, q⟩
  · subst ex
    obtain rfl : u = Value.ref a := rx
    exact getattr_ok I1 ea c n l fun u' s2 I2 ru => ⟨v, H1, I2, ru, q⟩
  · subst ex
    obtain rfl : u = Value.ref a := rx
    obtain ⟨oe, vs, ha, hz1, hz2, hdd⟩ := exh_at I1.hok ea
    have hx : ObjOk X.prog X.w H1 s1.heap dd (.xd fs) := I1.hok dd _ ed
    obtain ⟨mA, hns, hr⟩ := hx
    obtain ⟨od, ho, hl⟩ := lookIn_ns hns
    obtain ⟨u, hu, ru⟩ := RelO.some_of (v := v) (o := mA f) (by rw [← l]; exact hr f)
    have J : PySem.W.InstAt s1.heap a oe C (some od) := ⟨ha, hz1, by unfold PySem.W.notCls; rw [hdd] <;> rfl, by rw [hz2]; exact ho⟩
    exact HandSPX.exc_get I1.kIn J ga gg sb (PySem.W.findObj_own hd n rfl (by rw [hl, hu])) (handed_of ru) ⟨v, H1, I1.tok _, ru, q⟩
/-- facts of a class for one attribute -/
inductive AttOk (ev : Ev) (f : Str) (c : Nat) : Bool → Prop
  | ins : Cls ev.K (ev.ca c) → NoAttr ev.K (ev.ca c) f → AttOk ev f c false
  | exc : PySem.W.findIn ev.K (.ref (ev.ca c)) "__getattribute__" = some (some (.builtin "BaseException.__getattribute__")) → PySem.W.findIn ev.K (.ref (ev.ca c)) "__getattr__" = some none →
    PySem.W.subIn ev.K (.ref (ev.ca c)) (.type "BaseException") = some true → PySem.W.hasDictIn ev.K (ev.ca c) = true → NoAttr ev.K (ev.ca c) f → AttOk ev f c true
/-- cs: the classes of which it is known, whether exceptions -/
def attD (cs : List (Nat × Bool)) (f : Str) (ρ : List Sl) (a : Ar) : Option D := match recOf ρ a with
  | some (c, fs) => if (c, false) ∈ cs then fs.lookup f else none
  | none => (match con ρ a with
    | some (.exc c fs) => if (c, true) ∈ cs then fs.lookup f else none
    | _ => none)
def attX (cs : List (Nat × Bool)) (f : Str) (fo : Mo Ar) : Mo Ar := Mo.bind fo fun a ρ => match attD cs f ρ a with
  | some d => .ok ρ (.vl d)
  | none => .bad
theorem xo_attr {cs : List (Nat × Bool)} {fo : Mo Ar} (C : EC X ev W) (hc : ∀ c ∈ cs, AttOk ev f c.1 c.2) (he : PE X e (tO ev W fo)) (hb : attributeBase e f X.env (eval e X.env) = eval e X.env := by rfl) : PE X (.Attribute e f pos) (tO ev W (attX cs f fo)) :=
  (pe_attr he hb).imp fun σ H Q ⟨Fo, G, ρ, R, p⟩ => by
    refine tG.mono (Post.bind R p) fun v H1 ⟨G1, ρ1, a, g1, R1, r1, p1⟩ => ?_
    rw [C.K]
    unfold attD at p1
    cases q : recOf ρ1 a with
    | some cf =>
      obtain ⟨c, fs⟩ := cf
      simp only [q] at p1
      by_cases k : (c, false) ∈ cs
      · rw [if_pos k] at p1
        cases q2 : fs.lookup f with
        | none => simp only [q2] at p1; exact p1.elim
        | some d =>
          simp only [q2] at p1
          obtain ⟨b, dx, ws, rfl, k1, k2⟩ := rec_of R1 r1 q
          obtain ⟨v', k3, k4⟩ := k2.lookup q2
          cases hc _ k with
          | ins c1 c2 => exact .inl ⟨b, _, dx, ws, v', rfl, k1, c1, c2, k3, p1.here R1 k4⟩
      · rw [if_neg k] at p1
        exact p1.elim
    | none =>
      simp only [q] at p1
      cases q2 : con ρ1 a with
      | none => simp only [q2] at p1; exact p1.elim
      | some d0 =>
        simp only [q2] at p1
        cases d0 with
        | exc c fs =>
          simp only at p1
          by_cases k : (c, true) ∈ cs
          · rw [if_pos k] at p1
            cases q3 : fs.lookup f with
            | none => simp only [q3] at p1; exact p1.elim
            | some d =>
              simp only [q3] at p1
              have dr : DR ev G1 v (.exc c fs) := (r1.co R1 q2).dr fun _ z => nomatch z
              cases hc _ k with
              | exc c1 c2 c3 c4 c5 =>
                cases dr with
                | exc0 h => cases q3
                | exc1 h1 h2 h3 =>
                  obtain ⟨v', k3, k4⟩ := h3.lookup q3
                  exact .inr ⟨_, _, _, _, v', rfl, R1.gh _ _ h1, R1.gh _ _ h2, c1, c2, c3, c4, c5, k3, p1.here R1 k4⟩
          · rw [if_neg k] at p1
            exact p1.elim
        | _ => exact p1.elim
end
end L2.WD
/-! The data layer, part 10: isinstance. -/
namespace L2.WD
open PySem PySem.Spec PySem.Calls PyProof.Rows

/-! ### isinstance of a caught exception, with or without a dict -/
theorem obj_class {K : PySem.W.Frag} {C : Addr} {od : Option Obj} (hdct : PySem.W.hasDictIn K C = true) (ha : PySem.W.findIn K (.ref C) "__class__" = some (some (.builtin "object.__class__")))
    (hn : PySem.W.specialIn K (.builtin "object.__class__") "__get__" = some (some (.builtin "getset_descriptor.__get__"))) (htk : PySem.W.takesIn K (.builtin "object.__class__") = some true) :
    PySem.W.findObj K C od "__class__" = some (.bind (.builtin "getset_descriptor.__get__") (.builtin "object.__class__")) := by
  have hc : (PySem.W.clsIn K C).isSome = true := by
    obtain ⟨cd, hc, _⟩ := PySem.W.any_some hdct
    rw [hc]
    rfl
  cases od with
  | none => exact PySem.W.findObj_dataN hc ha hn htk
  | some od => exact PySem.W.findObj_data hc ha hn htk
section
variable {prog : Program} {w : World} {A : Around} {E : Value → Shared → Prop} {s : Shared} {K : PySem.W.Frag} {x D : Addr} {ox : Obj} {od : Option Obj}
open PySem.W in
theorem kin_classX {Q : Option Value → Shared → Prop} (C : ExcC K D)
    (X : K.In s.heap) (I : InstAt s.heap x ox D od) (h : Q (some (.ref D)) { s with toks := s.toks + 1 }) : wpAny (model prog w) A (getAttr? (.ref x) "__class__") Q E s := by
  have hf : findObj K D od "__class__" = some (.bind (.builtin "getset_descriptor.__get__") (.builtin "object.__class__")) := obj_class C.hd C.ha C.hn C.ht
  obtain ⟨hp, g, d, t, os⟩ := s
  have L0 := I.type (M := model prog w)
  have L1 := looks_findIn (M := model prog w) X C.hg
  have L2 := looks_findIn (M := model prog w) X C.hk
  have L3 := looks_find (M := model prog w) X I hf
  have sub : Looks (model prog w) hp (isInstance (.ref x) (.type "BaseException")) true := L0.andThen (looks_subIn X C.hs)
  have hx0 : (false && onTheHeap (Value.builtin "BaseException.__getattribute__")) = false := rfl
  have hx2 : (Value.builtin "BaseException.__getattribute__" == Value.builtin "object.__getattribute__") = false := by decide +kernel
  have hx1 : (onTheHeap (Value.ref D) && Value.builtin "BaseException.__getattribute__" == Value.builtin "object.__getattribute__") = false := by rw [hx2]; rfl
  unfold getAttr? getAttrBy? getAttrBy
  refine wpAny_bind (wpAny_mkText (wpAny_bind (wpAny_attempt (wpAny_holding (wpAny_bind (L0.at (wpAny_bind (L1.at ?_))))))))
  show wpAny _ _ (if (onTheHeap (Value.ref D) && Value.builtin "BaseException.__getattribute__" == Value.builtin "object.__getattribute__") = true then _ else _) _ _ _
  rw [hx1, if_neg Bool.false_ne_true]
  unfold getAttrByItsOwn hookBefore
  refine wpAny_bind ?_
  rw [if_pos (show onTheHeap (Value.ref D) = true from rfl)]
  refine L2.at ?_
  refine wpAny_bind (wpAny_attempt (wpAny_holding ?_))
  unfold callGetattribute
  rw [hx0, if_neg Bool.false_ne_true]
  unfold boundAndCalled
  rw [PySem.F.excAttr_ValueError.ga.bind (.ref x)]
  refine wpAny_bind (wpAny_pure ?_)
  show wpAny _ _ (call (.builtin "BaseException.__getattribute__") [.ref x, .str "__class__" t]) _ _ _
  refine wpAny_call (codeAny_call_builtin PySem.F.excAttr_ValueError.ga.plain PySem.F.entry_bexc_ga ?_)
  refine @check_slot (model prog w) _ _ ⟨hp, g, d, t + 1, os⟩ "BaseException.__getattribute__" "BaseException" "__getattribute__" (.ref x) [.str "__class__" t] [] _ (by decide +kernel) (by decide +kernel) sub (PySem.F.args_bexc_ga (.ref x) (.str "__class__" t)) ?_
  unfold Builtin.«object.__getattribute__»
  refine wpAny_bind (wpAny_of_eq (a := ((Value.ref x : Value), [Value.str "__class__" t])) (by first | rfl | (simp only [slotArgs]; rfl)) ?_)
  refine wpAny_bind (wpAny_pure (wpAny_bind (L0.at (wpAny_bind (L3.at ?_)))))
  show wpAny _ _ (holding [Value.builtin "object.__class__"] (call (.builtin "getset_descriptor.__get__") [.builtin "object.__class__", .ref x, .ref D]) >>= ret) _ _ _
  refine wpAny_bind (wpAny_holding (wpAny_call (class_get (s := ⟨hp, g, d, t + 1, os⟩) (ox := ox) (od := od) X I C.hm ?_)))
  refine wpAny_pure ?_
  show wpAny _ _ (handedOut (.ref D)) _ _ _
  rw [handedOut_of (v := .ref D) rfl]
  first
    | exact wpAny_pure (wpAny_pure h)
    | exact wpAny_pure h
    | exact wpAny_pure (wpAny_bind (wpAny_pure (wpAny_pure h)))
open PySem.W in
theorem kitx_excX (C : ExcC K D) : KitX K (.ref x) (.ref D) (fun h => InstAt h x ox D od) where
  ty := fun _ _ _ I => I.type
  it := fun _ _ X _ => by
    obtain ⟨cdD, hcD, _⟩ := any_some C.hd
    unfold clsIn at hcD
    split at hcD
    · rename_i c' d' cd' sl' ho
      intro A' Q' E' s' k q
      unfold isType loadHead
      exact wpAny_bind (wpAny_loadPart (k _ _ (X _ _ ho)) (wpAny_pure q))
    · cases hcD
  ne := fun h tp dd its n sl X htp => by
    obtain ⟨cdD, hcD, _⟩ := any_some C.hd
    refine Bool.eq_false_iff.mpr fun q => ?_
    have e : D = tp := Value.ref.inj (beq_iff_eq.mp q)
    subst e
    unfold clsIn at hcD
    split at hcD
    · rename_i c' d' cd' sl' ho
      have z := (X _ _ ho).symm.trans htp
      cases z
    · cases hcD
  ca := fun X I k => kin_classX C X I k
end
/-! ### kinds -/
/-- a kind: 0 NoneType 1 bool 2 int 3 str 4 list 5 tuple 6 dict 7 ValueError 8 LookupError 9 ArithmeticError; 10 + c: class c -/
def kdT : Nat → String
  | 0 => "NoneType"
  | 1 => "bool"
  | 2 => "int"
  | 3 => "str"
  | 4 => "list"
  | 5 => "tuple"
  | 6 => "dict"
  | 7 => "ValueError"
  | 8 => "LookupError"
  | _ => "ArithmeticError"
def kdV (e : Ev) (k : Nat) : Value := if k < 10 then .type (kdT k) else .ref (e.ca (k - 10))
/-- of which kind a thing is -/
def kdX : D → Option Nat
  | .non => some 0
  | .bl _ => some 1
  | .int _ => some 2
  | .str _ => some 3
  | .lst _ => some 4
  | .scr _ => some 4
  | .tup _ => some 5
  | .dic _ => some 6
  | .obj c _ => some (10 + c)
  | .exc c _ => some (10 + c)
  | _ => none
/-- the kind that is asked of -/
def kdC : D → Option Nat
  | .cls c => some (10 + c)
  | .ty n => if n = "bool" then some 1 else if n = "int" then some 2 else if n = "str" then some 3 else if n = "list" then some 4 else if n = "tuple" then some 5 else if n = "dict" then some 6
    else if n = "ValueError" then some 7 else if n = "LookupError" then some 8 else if n = "ArithmeticError" then some 9 else none
  | _ => none
/-- the facts of instances' classes -/
structure InsC (K : PySem.W.Frag) (C : Addr) : Prop where
  cl : Cls K C
  ha : PySem.W.findIn K (.ref C) "__class__" = some (some (.builtin "object.__class__"))
  hn : PySem.W.specialIn K (.builtin "object.__class__") "__get__" = some (some (.builtin "getset_descriptor.__get__"))
  ht : PySem.W.takesIn K (.builtin "object.__class__") = some true
  hm : PySem.W.mroIn K C (.type "object") = some true
/-- T: the table; os: classes of instances, xs: of exceptions -/
structure IsiT (e : Ev) (T : Nat → Nat → Option Bool) (os xs : Nat → Bool) : Prop where
  t : ∀ a b r, T a b = some r → PySem.W.kitOne e.K (kdV e a) (kdV e b) = some r
  o : ∀ c, os c = true → InsC e.K (e.ca c)
  x : ∀ c, xs c = true → ExcC e.K (e.ca c)
def isiG (T : Nat → Nat → Option Bool) (os xs : Nat → Bool) : List D → Option Sl
  | [d, c] => (match kdX d, kdC c with
    | some a, some b => (match d with
      | .obj k _ => if os k = true then (T a b).map fun r => .fz (.bl r) else none
      | .exc k _ => if xs k = true then (T a b).map fun r => .fz (.bl r) else none
      | _ => (T a b).map fun r => .fz (.bl r))
    | _, _ => none)
  | _ => none
/-- isinstance(e, c), e an exception -/
def rIsX (K : PySem.W.Frag) : List V → Hp → VK → Prop := fun xs H Q => ∃ (a C : Addr) (od : Option Addr) (c : V) (u : Value) (b : Bool), xs = [.ref a, c] ∧ ClsV c u ∧ H a = some (exh C a od) ∧ (od = none ∨ ∃ dd fs, od = some dd ∧ H dd = some (.xd fs)) ∧ ExcC K C ∧
  PySem.W.kitOne K (.ref C) u = some b ∧ Q (.bl b) H
def rIsU (K : PySem.W.Frag) : List V → Hp → VK → Prop := fun xs H Q => rIsi K xs H Q ∨ rIsX K xs H Q
section
variable {X : Cx}
theorem call_isX : CallR X (.builtin "isinstance") (rIsX X.K) := by
  intro pins s σ H xs us Q I r h
  obtain ⟨a, C, od, c, u, b, rfl, k, ea, hod, T, e, q⟩ := h
  obtain ⟨u1, u2, rfl, r1, r2⟩ := vals2 r
  have e2 := k.eq r2
  subst e2
  cases (show u1 = Value.ref a from r1)
  obtain ⟨oe, vs, ha, hz1, hz2, hdd⟩ := exh_at I.hok ea
  have J : ∃ od', PySem.W.InstAt s.heap a oe C od' := by
    rcases hod with rfl | ⟨dd, fs, rfl, ed⟩
    · exact ⟨none, ha, hz1, by unfold PySem.W.notCls; rw [hdd] <;> rfl, by rw [hz2]; exact True.intro⟩
    · obtain ⟨mA, hns, _⟩ := (show ObjOk X.prog X.w H s.heap dd (.xd fs) from I.hok dd _ ed)
      obtain ⟨o', ho', _⟩ := lookIn_ns hns
      exact ⟨some o', ha, hz1, by unfold PySem.W.notCls; rw [hdd] <;> rfl, by rw [hz2]; exact ho'⟩
  obtain ⟨od', J⟩ := J
  exact PySem.W.kia_one (kitx_excX T) I.kIn J e (fun z => nomatch z) fun tk => ⟨.bl b, H, I.tok tk, rfl, q⟩
theorem call_isU {e : Ev} (C : X.K = e.K) : CallR X (.builtin "isinstance") (rIsU e.K) := by
  rw [← C]
  intro pins s σ H xs us Q I r h
  rcases h with h | h
  · exact call_isi pins s σ H xs us Q I r h
  · exact call_isX pins s σ H xs us Q I r h
end
section
variable {e : Ev} {T : Nat → Nat → Option Bool} {os xs : Nat → Bool}
theorem kdC_v {G H : Hp} {v : V} {d : D} {k : Nat} (h : CoR e G H v d) (q : kdC d = some k) : ClsV v (kdV e k) := by
  cases d with
  | cls c =>
    cases q
    cases h with
    | st r =>
      cases r
      have : kdV e (10 + c) = .ref (e.ca c) := by
        unfold kdV
        rw [if_neg (by omega), Nat.add_sub_cancel_left]
      rw [this]
      exact .own _
  | ty n =>
    cases h with
    | st r =>
      cases r
      simp only [kdC] at q
      repeat' (split at q)
      all_goals first | (cases q; done) | (subst_vars; cases q; exact .ty _)
  | _ => cases q
theorem cg_isi (I : IsiT e T os xs) : CaG e (rIsU e.K) (isiG T os xs) := by
  intro G H vs ds s Q g h hs q
  cases h with
  | nil => cases hs
  | @cons v d _ _ h1 t =>
    cases t with
    | nil => simp [isiG] at hs
    | @cons w c _ _ h2 t2 =>
      cases t2 with
      | cons _ _ => simp [isiG] at hs
      | nil =>
        simp only [isiG] at hs
        cases q1 : kdX d with
        | none => simp only [q1] at hs; cases hs
        | some a =>
          cases q2 : kdC c with
          | none => simp only [q1, q2] at hs; cases hs
          | some b =>
            simp only [q1, q2] at hs
            have hc := kdC_v h2 q2
            have fin : ∀ {t : Value}, kdV e a = t → TyX e.K H v t → (T a b).map (fun r => Sl.fz (.bl r)) = some s → rIsU e.K [v, w] H Q := fun {t} et ty hm => by
              obtain ⟨r, hr, e1⟩ := Option.map_eq_some_iff.mp hm
              subst e1
              have := I.t a b r hr
              rw [et] at this
              exact .inl ⟨v, w, t, _, r, rfl, hc, ty, this, q G H _ (Gr.refl g) (.bl _)⟩
            cases d with
            | non => cases q1; cases h1.non; exact fin rfl (.base .non) hs
            | bl x => cases q1; cases h1.bl; exact fin rfl (.base (.bl x)) hs
            | int x => cases q1; cases h1.int; exact fin rfl (.base (.int x)) hs
            | str x => cases q1; cases h1.str; exact fin rfl (.base (.str x)) hs
            | lst ys =>
              cases q1
              obtain ⟨p, ws, rfl, k1, k2⟩ := h1.lst g
              exact fin rfl (.base (.lst k1)) hs
            | scr ns =>
              cases q1
              obtain ⟨p, rfl, k1⟩ := h1.scr g
              rcases k1 with (k1 | ⟨o, k1⟩) | k1
              · exact fin rfl (.base (.lst k1)) hs
              · exact fin rfl (.base (.frz k1)) hs
              · obtain ⟨_, us, n, k2, k3, _⟩ := k1
                exact fin rfl (.kList k2 k3) hs
            | tup ys =>
              cases q1
              obtain ⟨p, ws, rfl, k1, k2⟩ := h1.tup g
              rcases k1 with (k1 | ⟨o, k1⟩) | k1
              · exact fin rfl (.base (.tup k1)) hs
              · exact fin rfl (.fTuple k1) hs
              · obtain ⟨_, us, n, k2, k3, _⟩ := k1
                exact fin rfl (.kTuple k2 k3) hs
            | dic ys =>
              cases q1
              have dr := h1.dr fun _ z => nomatch z
              cases dr with
              | dic k1 k2 => exact fin rfl (.base (.dK (g _ _ k1))) hs
            | obj k fs =>
              cases q1
              simp only at hs
              split at hs
              · rename_i c1
                have dr := h1.dr fun _ z => nomatch z
                cases dr with
                | obj k1 k2 k3 =>
                  have C := I.o k c1
                  exact fin (by unfold kdV; rw [if_neg (by omega), Nat.add_sub_cancel_left]) (.base (.ins (g _ _ k1) C.cl C.ha C.hn C.ht C.hm)) hs
              · cases hs
            | exc k fs =>
              cases q1
              simp only at hs
              split at hs
              · rename_i c1
                have dr := h1.dr fun _ z => nomatch z
                obtain ⟨r, hr, e1⟩ := Option.map_eq_some_iff.mp hs
                subst e1
                have tb := I.t _ b r hr
                have ek : kdV e (10 + k) = .ref (e.ca k) := by unfold kdV; rw [if_neg (by omega), Nat.add_sub_cancel_left]
                rw [ek] at tb
                cases dr with
                | exc0 k1 => exact .inr ⟨_, _, none, w, _, r, rfl, hc, g _ _ k1, .inl rfl, I.x k c1, tb, q G H _ (Gr.refl g) (.bl _)⟩
                | exc1 k1 k2 k3 => exact .inr ⟨_, _, some _, w, _, r, rfl, hc, g _ _ k1, .inr ⟨_, _, rfl, g _ _ k2⟩, I.x k c1, tb, q G H _ (Gr.refl g) (.bl _)⟩
              · cases hs
            | _ => cases q1
end
end L2.WD
/-! The data layer, part 11: own exceptions of any family: their __init__, raise. -/
namespace L2.WD
open PySem PySem.Spec PySem.Calls PyProof.Rows

/-- own classes, then a built-in class's mro -/
def refsT (tl : List Value) : List Value → Bool
  | .ref _ :: r => refsT tl r
  | l => l == tl
theorem refsT_cases {tl : List Value} : ∀ l : List Value, refsT tl l = true → (∃ c r, l = .ref c :: r ∧ refsT tl r = true) ∨ l = tl
  | [], e => .inr (beq_iff_eq.mp e)
  | .ref c :: r, e => .inl ⟨c, r, rfl, e⟩
  | .none :: _, e => .inr (beq_iff_eq.mp e)
  | .ellipsis :: _, e => .inr (beq_iff_eq.mp e)
  | .notImplemented :: _, e => .inr (beq_iff_eq.mp e)
  | .bool _ :: _, e => .inr (beq_iff_eq.mp e)
  | .int _ _ :: _, e => .inr (beq_iff_eq.mp e)
  | .float _ _ :: _, e => .inr (beq_iff_eq.mp e)
  | .str _ _ :: _, e => .inr (beq_iff_eq.mp e)
  | .bytes _ _ :: _, e => .inr (beq_iff_eq.mp e)
  | .type _ :: _, e => .inr (beq_iff_eq.mp e)
  | .builtin _ :: _, e => .inr (beq_iff_eq.mp e)
/-- a family: a built-in exception class -/
structure Fam (B newId initId : String) (tl : List Value) : Prop where
  base : ExcBaseFacts B newId initId tl
  pass : ∀ self, refuseLoop self "__setattr__" tl = pure ()
  obj : tl.contains (.type "object") = true
  ini : PySem.W.handedIn (Value.builtin initId) = true
theorem fam_V : Fam "ValueError" "ValueError.__new__" "ValueError.__init__" [.type "ValueError", .type "Exception", .type "BaseException", .type "object"] := ⟨PySem.F.excBase_ValueError, PySem.F.store_ValueError.passes, by decide +kernel, by decide +kernel⟩
theorem fam_L : Fam "LookupError" "LookupError.__new__" "LookupError.__init__" [.type "LookupError", .type "Exception", .type "BaseException", .type "object"] := ⟨PySem.F.excBase_LookupError, PySem.F.store_LookupError.passes, by decide +kernel, by decide +kernel⟩
theorem fam_A : Fam "ArithmeticError" "ArithmeticError.__new__" "ArithmeticError.__init__" [.type "ArithmeticError", .type "Exception", .type "BaseException", .type "object"] := ⟨PySem.F.excBase_ArithmeticError, PySem.F.store_ArithmeticError.passes, by decide +kernel, by decide +kernel⟩
section
variable {B newId initId : String} {tl : List Value}
theorem refsT_pass (F : Fam B newId initId tl) (self : Value) : ∀ l : List Value, refsT tl l = true → refuseLoop self "__setattr__" l = pure () := by
  intro l
  induction l with
  | nil =>
    intro e
    rcases refsT_cases [] e with ⟨c, r', q, h⟩ | q
    · cases q
    · rw [q]; exact F.pass self
  | cons a r ih =>
    intro e
    rcases refsT_cases (a :: r) e with ⟨c, r', q, h⟩ | q
    · obtain ⟨rfl, rfl⟩ := List.cons.inj q
      rw [refuseLoop_ref]; exact ih h
    · rw [q]; exact F.pass self
theorem refsT_contains (X : String) : ∀ l : List Value, refsT tl l = true → l.contains (.type X) = tl.contains (.type X) := by
  intro l
  induction l with
  | nil =>
    intro e
    rcases refsT_cases [] e with ⟨c, r', q, h⟩ | q
    · cases q
    · rw [q]
  | cons a r ih =>
    intro e
    rcases refsT_cases (a :: r) e with ⟨c, r', q, h⟩ | q
    · obtain ⟨rfl, rfl⟩ := List.cons.inj q
      rw [List.contains_cons, ih h]; rfl
    · rw [q]
theorem refsT_ne (F : Fam B newId initId tl) {l : List Value} (e : refsT tl l = true) : l.isEmpty = false := by
  cases l with
  | nil =>
    have := (refsT_contains "object" [] e).trans F.obj
    cases this
  | cons _ _ => rfl
end
/-- what the written part says of the class -/
structure OexG (K : PySem.W.Frag) (tl : List Value) (newId : String) (C : Addr) : Prop where
  cls : ∃ nm q N bs bm sn sub ab col dd k0 k1 k2 k3 k5, K.lookup C = some (excClassObj nm q C N bs bm true sn sub ab col dd k0 k1 k2 k3 k5 newId) ∧ refsT tl bm = true
  sa : PySem.W.findIn K (.ref C) "__setattr__" = some (some (.builtin "object.__setattr__"))
  exC : PySem.W.subIn K (.ref C) (.type "BaseException") = some true
  tyC : PySem.W.typeIn K (.ref C) = some (.type "type")
  kC : PySem.W.keepIn K (.ref C) = true
section
variable {prog : Program} {w : World} {A : Around} {E : Value → Shared → Prop} {R : Result → Shared → Prop} {hp : Heap} {g : Array GenState} {d : Drawn} {t : Nat} {os : OsState} {B newId initId : String} {tl : List Value}
open Builtin Builtin.ObjectAttr PySem.HandSPX in
theorem osa_newG {K : PySem.W.Frag} {name : Str} {tk : Tok} {v : Value} {x C : Addr} {fv : Array Value} {cd : ClassData} (Fm : Fam B newId initId tl)
    (X : K.In hp) (hx : hp.get? x = some { cls := .ref C, data := .fields fv }) (hcd : PySem.W.clsIn K C = some cd) (hm : refsT tl cd.mro = true) (hh : cd.hasDict = true) (ha : PySem.W.findIn K (.ref C) name = some none)
    (hq : ∀ h' tk' dx, (∀ b o, b ≠ x → hp.get? b = some o → h'.get? b = some o) → hp.objs.size ≤ dx → dx ≠ x → h'.get? x = some { cls := .ref C, dict := some dx, data := .fields fv } →
      h'.Ns1 dx (fun y => if y = name then some v else none) → R (.ok (.ret .none)) ⟨h', g, d, tk', os⟩) :
    codeAny (model prog w) A (.call (.builtin "object.__setattr__") ⟨[.ref x, .str name tk, v], []⟩) R ⟨hp, g, d, t, os⟩ := by
  have I : PySem.W.InstAt hp x { cls := .ref C, data := .fields fv } C none := ⟨hx, rfl, rfl, trivial⟩
  have SF := F.store_object
  have ne := refsT_ne Fm hm
  have hob : cd.mro.contains (.type "object") = true := (refsT_contains "object" _ hm).trans Fm.obj
  have hxs : x ≠ hp.objs.size := Nat.ne_of_lt (Heap.lt_size hx)
  have sub : PySem.W.Looks (model prog w) hp (isInstance (.ref x) (.type "object")) true := I.type.andThen (PySem.W.looks_mroIn X (by unfold PySem.W.mroIn; rw [hcd, Option.bind_some, if_neg (by rw [ne]; decide), hob]))
  refine codeAny_call_builtin SF.slot.plain SF.entry (@PySem.W.check_slot (model prog w) _ _ ⟨hp, g, d, t, os⟩ "object.__setattr__" "object" "__setattr__" (.ref x) [.str name tk, v] [] _ SF.kind SF.split sub (SF.args (.ref x) (.str name tk) v) ?_)
  have hmr : PySem.W.Looks (model prog w) hp (mroOf (.ref C)) cd.mro := (PySem.W.looks_clsIn X hcd).andThen .now
  have L3 : PySem.W.Looks (model prog w) hp (storeTaker? none) none := .now
  have hcls : PySem.W.Looks (model prog w) hp (classData C) cd := PySem.W.looks_clsIn X hcd
  rw [PySem.W.osa_eq, refuse_eq]
  refine wpAny_bind (wpAny_bind (I.type.at (wpAny_bind (hmr.at ?_))))
  rw [refsT_pass Fm _ _ hm]
  refine wpAny_pure (wpAny_bind (I.type.at (wpAny_bind ((PySem.W.looks_findIn X ha).at (wpAny_bind (L3.at ?_))))))
  show wpAny _ _ (storeInOwnDict (.ref x) (.ref C) (.str name tk) name v false) _ _ _
  obtain ⟨nm, bs, mro, ns, qn, hd, sn, sb, ab, col, del⟩ := cd
  dsimp only at hh
  subst hh
  unfold storeInOwnDict ownDictForStores
  repeat (first | with_reducible refine store_in_new ?_ ?_ | with_reducible refine wpAny_loadPart_at hx ?_ | with_reducible refine hcls.at ?_ | wp_step)
  · exact ⟨_, #[], _, (Heap.get?_update_ne _ _ _ _ hxs.symm).trans (Heap.get?_push_at rfl rfl), rfl, fun e he => absurd he (by simp), fun _ => rfl⟩
  · intro h' tk' hn' hs
    have hx₁ : (hp.push { cls := .type "dict", data := .dict #[] }).get? x = some { cls := .ref C, data := .fields fv } := Heap.get?_push_of_some _ hx
    refine hq h' tk' hp.objs.size (fun b o hb ho => ?_) (Nat.le_refl _) hxs.symm ?_ hn'
    · exact (hs.2 b (Nat.ne_of_lt (Heap.lt_size ho))).trans ((Heap.get?_update_ne _ _ _ _ hb).trans (Heap.get?_push_of_some _ ho))
    · exact (hs.2 x hxs).trans (Heap.get?_update_self _ hx₁ rfl)
end
section
variable {X : Cx} {pins : List (Addr × Obj)} {σ : St} {H : Hp} {s : Shared} {a C dx : Addr} {f : Str} {y : V} {u : Value} {Q : Unit → Shared → Prop} {E : Value → Shared → Prop} {A : Around} {B newId initId : String} {tl : List Value}
/-- self.f = y, the first one -/
theorem ost_newG (Fm : Fam B newId initId tl) (T : OexG X.K tl newId C) (I : Inv X pins σ H s) (e : H a = some (exo a C none)) (hno : PySem.W.findIn X.K (.ref C) f = some none) (ry : RelV y u)
    (h : ∀ dx s', H dx = none → dx ≠ a → Inv X pins σ (upd (upd H dx (exd dx [(f, y)])) a (exo a C (some dx))) s' → Q () s') : wpAny (model X.prog X.w) A (setAttr (.ref a) f u) Q E s := by
  obtain ⟨nm, q, N, bs, bm, sn, sub, ab, col, dd, k0, k1, k2, k3, k5, hC, hbm⟩ := T.cls
  have hcl : PySem.W.clsIn X.K C = some { name := nm, bases := bs, mro := .ref C :: bm, ns := N, qualname := q, hasDict := true, slotNames := sn, subclasses := sub, abstract := ab, collection := col, hasDel := false } := by unfold PySem.W.clsIn; rw [hC] <;> rfl
  obtain ⟨t1, ho⟩ := exo_at I.hok e
  obtain ⟨hp, g, d, t, os⟩ := s
  refine PySem.W.set_plain I.kIn (ox := { cls := .ref C, dict := none, data := .fields #[.ref t1, .none, .none, .none, .bool false, .none] }) (od := none) ⟨ho, rfl, rfl, trivial⟩ T.sa ?_
  refine osa_newG Fm I.kIn ho hcl (show refsT tl (.ref C :: bm) = true from hbm) rfl hno (fun h' tk' dx k dn dne hx hn => ?_)
  have hnd : H dx = none := I.hok.fresh dn
  have nd : ∀ {b : Addr} {o : Obj}, hp.get? b = some o → b ≠ dx := fun {b o} q => Nat.ne_of_lt (Nat.lt_of_lt_of_le (Heap.lt_size q) dn)
  have na : ∀ {b : Addr}, H b = none → b ≠ a := fun {b} n z => by
    rw [z, e] at n
    cases n
  have Un1 : Un X.fs [] H (upd (upd H dx (exd dx [(f, y)])) a (exo a C (some dx))) hp h' := {
    keep := fun b o q n _ _ => k b o (na n) q
    slot := fun b o q n _ _ => ⟨o.slots, k b o (na n) q⟩
    free := fun b o q n _ => by rw [upd_ne (na n), upd_ne (nd q)]; exact n
    there := fun b o q _ => by
      by_cases hb : b = a
      · exact ⟨_, by rw [hb]; exact hx⟩
      · exact ⟨o, k b o hb q⟩
    tups := fun b xs q => by rw [upd_ne (at_ne e q exo_tup), upd_ne (ne_of_none q hnd)]; exact q
    frzs := fun b o v q => by rw [upd_ne (at_ne e q exo_frz), upd_ne (ne_of_none q hnd)]; exact q
    tbls := fun b ps q => ⟨#[], by rw [upd_ne (at_ne e q exo_tbl), upd_ne (ne_of_none q hnd), q]; simp⟩ }
  refine h dx _ hnd dne (I.un (t' := tk') Un1 fun b o q => ?_)
  by_cases hb : b = a
  · subst hb
    rw [upd_same] at q
    cases q
    exact exo_ok hx
  · rw [upd_ne hb] at q
    by_cases hd : b = dx
    · subst hd
      rw [upd_same] at q
      cases q
      exact exd_ok hn (relO_put (fs := []) ry fun g => True.intro)
    · rw [upd_ne hd] at q
      exact (I.hok b o q).stay (fun c v hc z => k c v (by
          rcases hc with hc | hc
          · rw [hc]
            exact hb
          · exact at_ne e hc exo_own) z)
        (fun c hc => by rw [upd_ne (at_ne e hc exo_own), upd_ne (ne_of_none hc hnd)]; exact hc) (fun c xs hc => by rw [upd_ne (at_ne e hc exo_tup), upd_ne (ne_of_none hc hnd)]; exact hc)
/-- Base.__init__(self, ..): nothing of it is told -/
theorem oinit_G {us : List Value} {Q : Value → Shared → Prop} (Fm : Fam B newId initId tl) (T : OexG X.K tl newId C) (I : Inv X pins σ H s) (e : H a = some (exo a C none)) (hl : us.length ≤ sizeLine) (h : ∀ s', Inv X pins σ H s' → Q .none s') :
    wpAny (model X.prog X.w) A (call (.builtin initId) (.ref a :: us)) Q E s := by
  obtain ⟨nm, q, N, bs, bm, sn, sub, ab, col, dd, k0, k1, k2, k3, k5, hC, hbm⟩ := T.cls
  obtain ⟨t1, ho⟩ := exo_at I.hok e
  obtain ⟨hp, g, d, t, os⟩ := s
  refine wpAny_call (PySem.HandSPX.init_base Fm.base (fun Y => refsT_contains Y bm hbm) (I.kIn _ _ hC) ho hl fun h' t2 k hx => ?_)
  have J := I.write (t' := t) (x := a) (e := a) (o := exo a C none) (by rw [e]; exact True.intro) (.inl rfl) k ⟨_, hx⟩ (exo_ok hx)
  have eu : upd H a (exo a C none) = H := by
    funext b
    by_cases hb : b = a
    · rw [hb, upd_same, e]
    · rw [upd_ne hb]
  rw [eu] at J
  exact h _ J
end
/-- WordError.__init__ is read off the class -/
structure BaseC (K : PySem.W.Frag) (Bc : Addr) (initId : String) : Prop where
  rd : PySem.W.readsIn K Bc (.type "type") = true
  ga : PySem.W.specialIn K (.ref Bc) "__getattribute__" = some (some (.builtin "type.__getattribute__"))
  at_ : PySem.W.findCls K (.ref Bc) (.type "type") "__init__" = some (.val (.builtin initId))
/-- Base.__init__(self, 'X'); self.f = x -/
def tIni (K : PySem.W.Frag) (tl : List Value) (newId : String) (ta : TA) : TE := fun σ H Q => ta σ H fun vs H1 => ∃ (a C : Addr) (ws : List V), vs = .ref a :: ws ∧ ws.length ≤ 1000 ∧ OexG K tl newId C ∧ H1 a = some (exo a C none) ∧ Q .non H1
def tOstG (K : PySem.W.Frag) (tl : List Value) (newId : String) (f : Str) (to te : TE) : TS := fun D σ H => te σ H fun y H1 => to σ H1 fun x H2 => ∃ a C : Addr, x = .ref a ∧ OexG K tl newId C ∧ PySem.W.findIn K (.ref C) f = some none ∧
  H2 a = some (exo a C none) ∧ ∀ dx, H2 dx = none → dx ≠ a → D.nx σ (upd (upd H2 dx (exd dx [(f, y)])) a (exo a C (some dx)))
def tMkG (C : Addr) (sp : Sp) (ta : TA) : St → Hp → XK → Prop := fun σ H Q => ta σ H fun vs H1 => vs.length ≤ 1000 ∧ ∀ a, H1 a = none → sp (.ref a :: vs) (upd H1 a (exo a C none))
  (fun v H2 => v = .non ∧ ∃ (d : Addr) (fs : List (Str × V)), H2 a = some (exo a C (some d)) ∧ H2 d = some (exd d fs) ∧ H1 d = none ∧ Q (.ref C) (some d) (upd (del H2 a) d (.xd fs))) (fun _ _ _ => False)
section
variable {X : Cx} {o e : Expr} {es : List Expr} {to te : TE} {ta : TA} {f : Str} {p p' p1 p2 pos : Pos} {B newId initId : String} {tl : List Value} {Bc : Addr} {bn : Str}
theorem pe_ini {pl : Sem Bool} (Fm : Fam B newId initId tl) (hb : BaseC X.K Bc initId) (hg : Gl X bn) (hm : X.mg bn = some (.ref Bc)) (ha : PA X (e :: es) ta) (hdb : (bn == ("__debug__" : Str)) = false)
    (hc : eval (.Call (.Attribute (.Name bn p1) "__init__" p2) (e :: es) [] pos) X.env = (do
      let ov ← eval (.Name bn p1) X.env
      standAt p2.atName
      let (f, first) ← holding [ov] (getMethod ov "__init__" pl)
      callWith pos f first (backTo pos (starEach (e :: es) X.env)) (backToKw pos (keywordEach [] X.env))) := by rfl)
    (he : starEach (e :: es) X.env = (false, eval e X.env) :: starEach es X.env := by rfl) (hpl : (backTo pos (starEach es X.env)).any (·.1) = false := by rfl) :
    PE X (.Call (.Attribute (.Name bn p1) "__init__" p2) (e :: es) [] pos) (tIni X.K tl newId ta) := by
  refine ⟨fun pins s σ H Q I h => ?_⟩
  refine PySem.W.methodCall_KW (ld_glob I hg hm ?_ hdb) hc
  refine PySem.W.method_cls I.kIn hb.ga (PySem.W.cls_value I.kIn hb.rd hb.at_ Fm.ini ?_)
  show wpAny _ _ (callWith pos (Value.builtin initId) [] (backTo pos (starEach (e :: es) X.env)) []) _ _ _
  refine PyProof.Rows.callWith_method1 (thn (ha.run pos pins _ σ H _ (I.tok _) h) fun us s1 ⟨vs, H1, I1, r1, a, C, ws, ev, hl, T, ea, q⟩ => ?_) he hpl
  subst ev
  cases r1 with
  | @cons _ u0 _ ur ra rw' =>
    obtain rfl : u0 = Value.ref a := ra
    have hlen : ur.length ≤ sizeLine := by
      rw [← Paired.length rw', sizeLine_eq]
      omega
    exact oinit_G Fm T I1 ea hlen fun s' J => ⟨.non, H1, J, rfl, q⟩
theorem ps_ostG (Fm : Fam B newId initId tl) (ho : PE X o to) (he : PE X e te) (hs : swapsWith e (some (.Attribute o f p')) pos.line X.env = pure false := by rfl) : PS X (.Assign [.Attribute o f p'] e pos) (tOstG X.K tl newId f to te) := by
  refine ⟨fun pins s σ H D I h => ?_⟩
  refine plainObj_wpAny_Assign_Attribute (thn (he.run pins s σ H _ I h) fun v s1 ⟨y, H1, I1, r1, q1⟩ => thn (ho.run pins s1 σ H1 _ I1 q1) fun u s2 ⟨x, H2, I2, r2, a, C, ex, T, hno, ea, q⟩ => ?_) hs
  subst ex
  obtain rfl : u = Value.ref a := r2
  exact ost_newG Fm T I2 ea hno r1 fun dx s' n ne J => ⟨σ, _, J, q dx n ne⟩
theorem pmk_G {CX : CXT} {x : Str} {C fI : Addr} {k : Nat} {fd : FuncData} {ps : List Str} {sp : Sp} (Fm : Fam B newId initId tl) (T : OexG X.K tl newId C) (iC : PySem.W.findIn X.K (.ref C) "__init__" = some (some (.ref fI))) (tI : PySem.W.typeIn X.K (.ref fI) = some (.type "function"))
    (F1 : FnOk X.prog X.w X.K X.mg X.base CX k fI fd ps sp) (hr : Room (k + 1) X.A) (hb : Binds X.K fd ps []) (hx : Passes CX X (fun _ _ _ => False)) (hg : Gl X x) (hm : X.mg x = some (.ref C)) (ha : PA X (e :: es) ta)
    (hdb : (x == ("__debug__" : Str)) = false := by decide) (he : starEach (e :: es) X.env = (false, eval e X.env) :: starEach es X.env := by rfl) (hpl : (backTo pos (starEach es X.env)).any (·.1) = false := by rfl) :
    PMk X (.Call (.Name x p) (e :: es) [] pos) (tMkG C sp ta) := by
  intro pins s σ H Q I h
  obtain ⟨nm, q, N, bs, bm, sn, sub, ab, col, dd, k0, k1, k2, k3, k5, hC, hbm⟩ := T.cls
  refine wpAny_Call_Name_kw (ld_glob I hg hm ?_ hdb)
  refine PySem.W.callWith_K (h₀ := X.base) I.ok.mod.kin T.kC (thn (ha.run pos pins s σ H _ I h) fun us s1 ⟨vs, H1, I1, r1, hz, q1⟩ => ⟨I1.kIn, ?_⟩) he hpl
  show wpAny _ _ (call (.ref C) us) _ _ _
  obtain ⟨hp, g, dr, tk, os⟩ := s1
  have hsz : hp.objs.size ≤ hp.objs.size + 1 := Nat.le_succ _
  have hn : H1 (hp.objs.size + 1) = none := I1.hok.fresh hsz
  have hq := q1 (hp.objs.size + 1) hn
  have kk : ∀ b o, hp.get? b = some o → ((hp.push (PySem.W.kdv_tup us)).push (PySem.HandSPX.excO C hp.objs.size)).get? b = some o := fun b o e => Heap.get?_push_of_some _ (Heap.get?_push_of_some _ e)
  have hget : ((hp.push (PySem.W.kdv_tup us)).push (PySem.HandSPX.excO C hp.objs.size)).get? (hp.objs.size + 1) = some (PySem.HandSPX.excO C hp.objs.size) := by heap_get
  have I2 : Inv X pins σ (upd H1 (hp.objs.size + 1) (exo (hp.objs.size + 1) C none)) ⟨(hp.push (PySem.W.kdv_tup us)).push (PySem.HandSPX.excO C hp.objs.size), g, dr, tk, os⟩ :=
    I1.laid (t' := tk) (a := hp.objs.size + 1) (o := exo (hp.objs.size + 1) C none) (h' := (hp.push (PySem.W.kdv_tup us)).push (PySem.HandSPX.excO C hp.objs.size)) kk hsz (exo_ok hget)
  have r2 : Vals (V.ref (hp.objs.size + 1) :: vs) (Value.ref (hp.objs.size + 1) :: us) := .cons rfl r1
  have hl : (Value.ref (hp.objs.size + 1) :: us).length = ps.length := by
    have e := r2.length
    rw [F1.len _ _ _ _ hq] at e
    exact e.symm
  have hus : us.length ≤ sizeLine := by
    rw [← Paired.length r1, sizeLine_eq]
    omega
  have hb1 := hb _ (Value.ref (hp.objs.size + 1) :: us) I2.kIn (by rw [List.append_nil]; exact hl)
  rw [List.append_nil] at hb1
  refine wpAny_call (PySem.HandSPX.call_own Fm.base (fun Y => refsT_contains Y bm hbm) (I1.kIn _ _ hC) (PySem.W.looks_findIn I1.kIn iC) (fun self => PySem.W.bind_fn I1.kIn self tI) hus
    (codeAny_mono (F1.run _ X.stack _ _ ⟨Value.ref (hp.objs.size + 1) :: us, []⟩ (Value.ref (hp.objs.size + 1) :: us) _ _ (fun _ _ _ => False) (hr.make C us []) (I2.env0.make C us []) hb1 r2 hq) fun r s' hq' => ?_))
  cases r with
  | error er => exact hx pins σ _ _ er s' I2 hq'
  | ok fl =>
    cases fl with
    | ret u =>
      obtain ⟨v, H2, os2, bare2, un2, hok2, rv, ev, d, fs, ea, ed, hd1, q2⟩ := hq'
      subst ev
      obtain ⟨h2, g2, d2, t2, os'⟩ := s'
      exact ⟨rv, mk_end (raises_own T.exC T.tyC) I1 hsz kk un2 hok2 os2 bare2 ea ed hd1 q2⟩
    | next => exact False.elim hq'
    | brk => exact False.elim hq'
    | cont => exact False.elim hq'
end
end L2.WD
/-! The data layer, part 12: raise, try. -/
namespace L2.WD
open PySem PySem.Spec PySem.Calls PyProof.Rows

theorem passesF {X : Cx} : Passes (L2.CX X.prog X.w) X (fun _ _ _ => False) := fun _ _ _ _ _ _ _ h => by
  obtain ⟨_, _, _, _, _, _, _, _, _, _, _, _, z⟩ := h
  exact z.elim
/-! ### the __init__ of an exception with one field -/
def spXI (C : Addr) (f : Str) : Sp := fun vs H Q _ => ∃ (a : Addr) (y : V), vs = [.ref a, y] ∧ H a = some (exo a C none) ∧ ∀ dx, H dx = none → dx ≠ a → Q .non (upd (upd H dx (exd dx [(f, y)])) a (exo a C (some dx)))
section
variable {P : Program} {w : World} {e : Ev} {base : Heap} {B newId initId : String} {tl : List Value}
theorem exInit_ok {C Bc fI : Addr} {k : Nat} {bn qual m f x : Str} {params : Arguments} {scope : Scope} {fd : FuncData} {p1 p2 p3 p4 p5 p6 q1 q2 q3 q4 : Pos} {j : Nat}
    (F : FunD e.K "__init__" qual params [.Expr (.Call (.Attribute (.Name bn p1) "__init__" p2) [.Name "self" p3, .Constant (.str m) j p4] [] p5) p6, .Assign [.Attribute (.Name "self" q1) f q2] (.Name x q3) q4] scope [] [] fI fd)
    (S : FnScope ["self", x] ["self", x] scope) (h1 : scope.names.lookup ("self" : Str) = some .local) (h2 : scope.names.lookup x = some .local) (hg : scope.names.lookup bn = some .globalImplicit)
    (Fm : Fam B newId initId tl) (hB : BaseC e.K Bc initId) (hm : e.mg bn = some (.ref Bc)) (T : OexG e.K tl newId C) (hno : PySem.W.findIn e.K (.ref C) f = some none)
    (hx1 : (x == ("__debug__" : Str)) = false) (hx2 : (x == ("__classdict__" : Str)) = false) (hb1 : (bn == ("__debug__" : Str)) = false) {pl : Env → Sem Bool}
    (hc : ∀ env : Env, eval (.Call (.Attribute (.Name bn p1) "__init__" p2) [.Name "self" p3, .Constant (.str m) j p4] [] p5) env = (do
      let ov ← eval (.Name bn p1) env
      standAt p2.atName
      let (f, first) ← holding [ov] (getMethod ov "__init__" (pl env))
      callWith p5 f first (backTo p5 (starEach [.Name "self" p3, .Constant (.str m) j p4] env)) (backToKw p5 (keywordEach [] env))) := by intro _; rfl) :
    FnOk P w e.K e.mg base (L2.CX P w) (k + 1) fI fd ["self", x] (spXI C f) := by
  refine F.ok S (fun vs H Q E ⟨_, _, h, _⟩ => by rw [h]; rfl) fun cdv A outer s H vs Q E hr ⟨a, y, ev, ea, q⟩ => ?_
  subst ev
  refine ⟨_, pss_cons (ps_expr (pe_ini (pl := pl _) Fm hB hg hm (pa_cons (pe_var (i := 0) rfl (.inl h1) (by decide) (by decide)) (pa_cons pe_str pa_nil)) hb1 (hc _))) (pss_one (ps_ostG Fm (pe_var (i := 0) rfl (.inl h1) (by decide) (by decide)) (pe_var (i := 1) rfl (.inl h2) hx1 hx2))), ?_⟩
  refine ⟨.ref a, rfl, a, C, [.str m], rfl, by simp, T, ea, ?_⟩
  refine ⟨y, rfl, .ref a, rfl, a, C, rfl, T, hno, ea, fun dx n ne => q dx n ne⟩
end
/-! ### raise -/
def raiseS1 (c : Nat) (f : Str) (fd : Mo D) : So := bindS fd fun d ρ => .exc ρ c [(f, d)]
def raiseS0 (c : Nat) : So := fun ρ => .exc ρ c []
section
variable {X : Cx} {e : Ev} {W : WX} {B newId initId : String} {tl bmB : List Value}
theorem ss_raise0 {c : Nat} {x m : Str} {j : Nat} {p p2 pos pos2 : Pos} (C : EC X e W) (cm : X.calm = true) (F : ExcBaseFacts B newId initId bmB) (q : PySem.W.excIn e.K (e.ca c) bmB newId = true) (kC : PySem.W.keepIn e.K (.ref (e.ca c)) = true)
    (h1 : PySem.W.subIn e.K (.ref (e.ca c)) (.type "BaseException") = some true) (h2 : PySem.W.typeIn e.K (.ref (e.ca c)) = some (.type "type")) (hg : Gl X x) (gC : e.mg x = some (.ref (e.ca c))) (hdb : (x == ("__debug__" : Str)) = false := by decide) :
    PS X (.Raise (some (.Call (.Name x p) [.Constant (.str m) j p2] [] pos)) none pos2) (tS e W (raiseS0 c)) := by
  have r : Raises X (.ref (e.ca c)) := raises_own (by rw [C.K]; exact h1) (by rw [C.K]; exact h2)
  exact (ps_raise cm C.tk (pmk_own F (by rw [C.K]; exact q) (by rw [C.mg]; exact gC) (by rw [C.K]; exact kC) r hg hdb)).imp fun En σ H ⟨Fo, G, ρ, R, p⟩ => p G σ H _ _ (L2.Same.refl _) (KeepS.refl _ _) R .e0
theorem ss_raise1 {c : Nat} {x f px : Str} {a : Expr} {p pos pos2 : Pos} {fI : Addr} {k : Nat} {fn : FuncData} {fd : Mo D} (C : EC X e W) (cm : X.calm = true) (Fm : Fam B newId initId tl) (T : OexG e.K tl newId (e.ca c)) (iC : PySem.W.findIn e.K (.ref (e.ca c)) "__init__" = some (some (.ref fI)))
    (tI : PySem.W.typeIn e.K (.ref fI) = some (.type "function")) (F1 : FnOk X.prog X.w X.K X.mg X.base (L2.CX X.prog X.w) k fI fn ["self", px] (spXI (e.ca c) f)) (hr : Room (k + 1) X.A) (hb : Binds X.K fn ["self", px] []) (hg : Gl X x) (gC : e.mg x = some (.ref (e.ca c)))
    (ha : PE X a (tD e W fd)) (hdb : (x == ("__debug__" : Str)) = false := by decide) (he : starEach [a] X.env = (false, eval a X.env) :: starEach [] X.env := by rfl) :
    PS X (.Raise (some (.Call (.Name x p) [a] [] pos)) none pos2) (tS e W (raiseS1 c f fd)) := by
  refine (ps_raise cm C.tk (pmk_G Fm (by rw [C.K]; exact T) (by rw [C.K]; exact iC) (by rw [C.K]; exact tI) F1 hr hb passesF hg (by rw [C.mg]; exact gC) (pa_cons ha pa_nil he) hdb he rfl)).imp fun En σ H ⟨Fo, G, ρ, R, p⟩ => ?_
  refine tG.mono (PostS.bind R p) fun y H1 ⟨G1, ρ1, d, g1, R1, r1, _, p1⟩ => ?_
  refine ⟨by simp, fun a na => ⟨a, y, rfl, upd_same, fun dx ndx nda => ⟨rfl, dx, _, upd_same, by rw [upd_ne nda, upd_same], by rw [upd_ne nda] at ndx; exact ndx, ?_⟩⟩⟩
  have ndx' : H1 dx = none := by rw [upd_ne nda] at ndx; exact ndx
  have eu : upd (del (upd (upd (upd H1 a (exo a (e.ca c) none)) dx (exd dx [(f, y)])) a (exo a (e.ca c) (some dx))) a) dx (.xd [(f, y)]) = upd H1 dx (.xd [(f, y)]) := by
    funext b
    by_cases hb1 : b = dx
    · rw [hb1, upd_same, upd_same]
    · rw [upd_ne hb1, upd_ne hb1]
      by_cases hb2 : b = a
      · rw [hb2, del_same, na]
      · rw [del_ne hb2, upd_ne hb2, upd_ne hb1, upd_ne hb2]
  rw [eu]
  have sg := same_upd (o := HO.xd [(f, y)]) (R1.gnone ndx')
  exact p1 _ σ _ _ _ sg (KeepS.refl _ _) (R1.lay2 ndx') (.e1 upd_same (.cons (DR.mono sg r1) .nil))
end
/-! ### try -/
/-- a handler: which classes it catches, its name's slot, its suite -/
structure Hd where
  cat : Nat → Option Bool
  ix : Nat
  su : So
def goneS (i : Nat) : Out → Out
  | .nx ρ => .nx (ρ.set i .no)
  | .bk ρ => .bk (ρ.set i .no)
  | .ct ρ => .ct (ρ.set i .no)
  | .rt ρ s => .rt ρ s
  | _ => .bad
def handle : List Hd → List Sl → Nat → List (Str × D) → Out
  | [], ρ, c, fs => .exc ρ c fs
  | h :: hs, ρ, c, fs => match h.cat c with
    | some true => if free ρ h.ix = true then goneS h.ix (h.su (ρ.set h.ix (.fz (.exc c fs)))) else .bad
    | some false => handle hs ρ c fs
    | none => .bad
def tryS (b : So) (hs : List Hd) : So := fun ρ => match b ρ with
  | .exc ρ1 c fs => handle hs ρ1 c fs
  | o => o
/-- what the body's exceptions are asked -/
def wT (e : Ev) (hs : List Hd) (Wout : WX) (D : Ends) : WX := fun cls d σ H => ∃ (Fo G : Hp) (ρ : List Sl) (c : Nat) (fs : List (Str × L2.WD.D)), Rel e Fo G σ H ρ ∧ ExcR e G c fs cls d ∧ PostS e Wout Fo G σ ρ (handle hs ρ c fs) D
section
variable {e : Ev} {Fo G H : Hp} {σ : St} {ρ : List Sl} {i : Nat}
theorem Rel.gone (R : Rel e Fo G σ H ρ) : Rel e Fo G (σ.set i none) H (ρ.set i .no) := by
  refine ⟨R.gh, R.fh, R.fg, R.sl.set .no i, fun j k b s t h1 h2 o1 o2 e1 e2 => ?_⟩
  have ne : ∀ {n : Nat} {u : Sl}, (ρ.set i .no)[n]? = some u → u.owned = true → n ≠ i := fun {n u} h o z => by
    subst z
    by_cases c : n < ρ.length
    · rw [List.getElem?_set_self c] at h
      cases h
      cases o
    · rw [List.getElem?_eq_none (by simpa using c)] at h
      cases h
  have n1 := ne h1 o1
  have n2 := ne h2 o2
  rw [List.getElem?_set_ne (Ne.symm n1)] at h1 e1
  rw [List.getElem?_set_ne (Ne.symm n2)] at h2 e2
  exact R.ap j k b s t h1 h2 o1 o2 e1 e2
theorem free_keep2 {s : Sl} {o : Option V} {σ' : St} {ρ' : List Sl} {t : Sl} (h : free ρ i = true) (k : KeepS (σ.set i o) (ρ.set i s) σ' ρ') : KeepS σ ρ (σ'.set i none) (ρ'.set i .no) := fun j u hj hm => by
  have ji : j ≠ i := fun z => by
    subst z
    unfold free at h
    simp only [hj, hm] at h
    cases h
  obtain ⟨e1, s1, h1, m1⟩ := k j u (by rw [List.getElem?_set_ne (Ne.symm ji)]; exact hj) hm
  rw [List.getElem?_set_ne (Ne.symm ji)] at e1
  exact ⟨by rw [List.getElem?_set_ne (Ne.symm ji)]; exact e1, s1, by rw [List.getElem?_set_ne (Ne.symm ji)]; exact h1, m1⟩
theorem free_keep3 {s : Sl} {o : Option V} {σ' : St} {ρ' : List Sl} (h : free ρ i = true) (k : KeepS (σ.set i o) (ρ.set i s) σ' ρ') : KeepS σ ρ σ' ρ' := fun j u hj hm => by
  have ji : j ≠ i := fun z => by
    subst z
    unfold free at h
    simp only [hj, hm] at h
    cases h
  obtain ⟨e1, s1, h1, m1⟩ := k j u (by rw [List.getElem?_set_ne (Ne.symm ji)]; exact hj) hm
  rw [List.getElem?_set_ne (Ne.symm ji)] at e1
  exact ⟨e1, s1, h1, m1⟩
end
section
variable {X : Cx} {pins : List (Addr × Obj)} {σ : St} {H : Hp} {s : Shared}
/-- an except suite, the exception tracked -/
theorem Inv.suiteT {a C : Addr} {d : Option Addr} {oe : Obj} {vs : Array Value} (I : Inv X pins σ H s) (ha : s.heap.get? a = some oe) (hc : oe.cls = .ref C) (hdd : oe.dict = d) (hd : oe.data = .fields vs) (na : H a = none) (nL : a ≠ X.env.locals) (n0 : X.s_0.heap.get? a = none) (np : ∀ p ∈ X.pn ++ pins, p.1 ≠ a) :
    Inv (X.suite a (X.pn ++ pins)) [] σ (upd H a (exh C a d)) s := by
  refine ⟨I.ok.suite _ _, I.os, I.bare, ⟨fun b o q n f x => I.base.keep b o q n f x, fun b o q n f x => I.base.slot b o q n f x, fun b o q n x => ?_, fun b o q x => I.base.there b o q x, fun b xs q => ?_, fun b o xs q => ?_, fun b ps q => ?_⟩, I.loc, I.cell, ?_, fun x c q => ?_, fun p hp => ?_, fun b o q => ?_, I.len⟩
  · have hb : b ≠ a := fun z => by rw [z, n0] at q; cases q
    rw [upd_ne hb]
    exact I.base.free b o q n x
  · have hb : b ≠ a := fun z => by have := I.base.tups b xs q; rw [z, na] at this; cases this
    rw [upd_ne hb]
    exact I.base.tups b xs q
  · have hb : b ≠ a := fun z => by have := I.base.frzs b o xs q; rw [z, na] at this; cases this
    rw [upd_ne hb]
    exact I.base.frzs b o xs q
  · obtain ⟨more, h1⟩ := I.base.tbls b ps q
    have hb : b ≠ a := fun z => by rw [z, na] at h1; cases h1
    exact ⟨more, by rw [upd_ne hb]; exact h1⟩
  · show (upd H a (exh C a d)) X.env.locals = none
    rw [upd_ne (Ne.symm nL)]
    exact I.free
  · have hb : c ≠ a := fun z => by
      obtain ⟨v, o1, h1⟩ := I.cell x c q
      rw [z, ha] at h1
      have h2 := Option.some.inj h1.1
      subst h2
      have h3 := h1.2
      rw [hd] at h3
      cases h3
    rw [upd_ne hb]
    exact I.freeC x c q
  · have hp' : p ∈ X.pn ++ pins := by rw [List.append_nil] at hp; exact hp
    obtain ⟨h1, h2, h3, h4, h5⟩ := I.pin p hp'
    exact ⟨h1, by rw [upd_ne (np p hp')]; exact h2, h3, h4, h5⟩
  · by_cases hb : b = a
    · subst hb
      rw [upd_same] at q
      cases q
      exact exh_ok ha hc hdd hd
    · rw [upd_ne hb] at q
      exact (I.hok b o q).stay (fun c v _ z => z) (fun c hc => by rw [upd_ne (ne_of_none hc na)]; exact hc) (fun c xs hc => by rw [upd_ne (ne_of_none hc na)]; exact hc)
theorem Inv.unsuiteT {a : Addr} {pn' : List (Addr × Obj)} (I : Inv (X.suite a (X.pn ++ pins)) pn' σ H s) (ok : X.Ok) : Inv X pins σ H s :=
  ⟨ok, I.os, I.bare, I.base, I.loc, I.cell, I.free, I.freeC, fun p hp => I.pin p (List.mem_append_left _ hp), I.hok, I.len⟩
end

/-- a handler's facts: its class's name, value -/
structure HdOk (X : Cx) (e : Ev) (x n : Str) (suite : List Stmt) (h : Hd) (c : Value) : Prop where
  nm : Names X x c
  ca : ∀ k b, h.cat k = some b → PySem.W.exmOne e.K (.ref (e.ca k)) c = some b
  ix : X.N[h.ix]? = some n
  lo : X.env.kindOf n = some .local
  ne : ∃ b0 r, suite = b0 :: r
  su : ∀ (a : Addr) (pn : List (Addr × Obj)), PSs (X.suite a pn) suite (tS e WF h.su)
inductive HdsOk (X : Cx) (e : Ev) : List ExceptHandler → List Hd → Prop
  | nil : HdsOk X e [] []
  | cons {x n : Str} {np pos : Pos} {suite : List Stmt} {h : Hd} {c : Value} {es : List ExceptHandler} {hs : List Hd} : HdOk X e x n suite h c → HdsOk X e es hs → HdsOk X e (.ExceptHandler (some (.Name x np)) (some n) suite pos :: es) (h :: hs)
theorem EC.suite {X : Cx} {e : Ev} {W : WX} (C : EC X e W) (a : Addr) (pn : List (Addr × Obj)) : EC (X.suite a pn) e WF := ⟨C.K, C.mg, C.nd, takes0, PassesOwn.never⟩
section
variable {X : Cx} {e : Ev} {W : WX} {pins : List (Addr × Obj)} {a : Addr} {B : Heap}
theorem handle_ok (C : EC X e W) (hs : X.stack = X.env :: X.outer) (hf : X.env.frame = some X.env.locals) (hex : X.ex = []) (ok : X.Ok) {σ : St} {H Fo G : Hp} {ρ : List Sl} {c : Nat} {fs : List (Str × D)} {d : Option Addr} {sI s' : Shared} {h3 : Heap} {En : Ends}
    (J : Inv X pins σ H sI) (nb : ∀ b o, sI.heap.get? b = some o → b ∉ frs X.stack → B.get? b = some o) (na : H a = none) (os : s'.os = sI.os) (ag : AllBare s'.gens) (R : Rel e Fo G σ H ρ) (xr : ExcR e G c fs (.ref (e.ca c)) d) (Bn : B.get? a = none) :
    ∀ {es : List ExceptHandler} {hds : List Hd} {h3 : Heap}, HdsOk X e es hds → sI.heap.UpToSlots h3 → HandSPX.FlyingZ B (X.env :: X.outer) a (Zc (.ref (e.ca c)) d) h3 → PostS e W Fo G σ ρ (handle hds ρ c fs) En →
    wpAny (model X.prog X.w) X.A (handleBy (.ref a) X.env es) (SP X pins En) X.xe { s' with heap := h3 } := by
  intro es hds h3 ho
  induction ho generalizing h3 with
  | nil =>
    intro up fl3 p
    refine wpAny_handleBy_nil ?_
    obtain ⟨k1, k2, k3, oe, vs, T, oT, ts', he, hz, hd, h1, hr⟩ := id fl3
    unfold PySem.passOn
    refine wpAny_bind (wpAny_field he hd h1 ?_)
    rw [if_neg (show ¬ ((Value.ref T == Value.none) = true) from by simp)]
    have fin : wpAny (model X.prog X.w) X.A (setFlight (.ref a) X.env.frame) (fun _ s4 => wpAny (model X.prog X.w) X.A (throw (.ref a) : Sem Flow) (SP X pins En) X.xe s4) X.xe { s' with heap := h3 } := by
      rw [hf]
      refine HandSPX.setFlight_upZ fl3 fun h4 hh4 up4 => wpAny_throw (C.tk _ _ ?_)
      exact ⟨a, B, sI, pins, σ, H, _, d, rfl, J, nb, up.trans up4, .inr (.inr (by rw [hs]; exact hh4)), na, os, ag, p G σ H _ d (L2.Same.refl _) (KeepS.refl _ _) R xr⟩
    first
      | exact wpAny_bind (wpAny_pure (wpAny_bind fin))
      | exact wpAny_bind fin
  | @cons x n npos pos suite h cv es hds Hh Hs ih =>
    intro up fl3 p
    have J3 : Inv X pins σ H { s' with heap := h3 } := J.landed nb fl3.1 up os ag
    obtain ⟨oe3, vs3, he3, hz3, hd3⟩ := fl3.there
    have notFr : ∀ {h : Heap} {o : Obj} {vs : Array Value}, h.FunFrames B (X.env :: X.outer) → h.get? a = some o → o.data = .fields vs → a ∉ frs (X.env :: X.outer) := fun {h o vs} ff e dd hm => by
      obtain ⟨_, o', e', hnf⟩ := ff.mem hm
      rw [e] at e'; cases e'
      exact hnf _ dd
    have nfr := notFr fl3.2.2.1 he3 hd3
    have nL : a ≠ X.env.locals := fun z => nfr (List.mem_filterMap.mpr ⟨X.env, List.mem_cons_self, by rw [hf, z]⟩)
    have nF : a ∉ X.fs := fun hm => by
      obtain ⟨e, he, q⟩ := List.mem_filterMap.mp hm
      exact nfr (List.mem_filterMap.mpr ⟨e, List.mem_cons_of_mem _ he, q⟩)
    have n0 : X.s_0.heap.get? a = none := by
      cases q : X.s_0.heap.get? a with
      | none => rfl
      | some o =>
        obtain ⟨o', e1⟩ := J.base.there a o q (by rw [hex]; exact fun z => nomatch z)
        have := nb a o' e1 (by rw [hs]; exact nfr)
        rw [Bn] at this
        cases this
    have np : ∀ p ∈ X.pn ++ pins, p.1 ≠ a := fun p hp z => by
      obtain ⟨h1, h2, h3, h4, h5⟩ := J.pin p hp
      have := nb p.1 p.2 h1 (by rw [z, hs]; exact nfr)
      rw [z, Bn] at this
      cases this
    have S3 := J3.suite he3 hd3 na nL nF
    obtain ⟨b0, r, hsu⟩ := Hh.ne
    refine wpAny_handleBy_cons (codeAny_handlers_test ?_) (by intro q; cases q)
    have LT : PySem.W.Looks (model X.prog X.w) h3 (typeOf (.ref a)) (.ref (e.ca c)) := fun A Q E s k q => wpAny_typeOf_ref (k _ _ he3) (by rw [hz3.1]; exact q)
    have test : ∀ {Q : Value → Shared → Prop} {E : Value → Shared → Prop}, Q cv { s' with heap := h3 } → wpAny (model X.prog X.w) (X.A.mark (some (.ref a))) (eval (.Name x npos) X.env) Q E { s' with heap := h3 } := fun {Q E} q => by
      obtain ⟨hg, hdbg, hm | ⟨hm, hv, hnn⟩⟩ := Hh.nm
      · exact ld_glob (X := X.suite a ((a, oe3) :: (X.pn ++ pins))) S3 hg hm q hdbg
      · exact ld_blt (X := X.suite a ((a, oe3) :: (X.pn ++ pins))) S3 hg hm hv q hnn hdbg
    unfold handle at p
    cases hcat : h.cat c with
    | none => simp only [hcat] at p; exact p.elim
    | some b =>
      simp only [hcat] at p
      have hb1 := Hh.ca c b hcat
      rw [← C.K] at hb1
      have LM := PySem.W.exm_one (M := model X.prog X.w) (J3.kIn) LT hb1
      refine test (LM.here ?_)
      cases b with
      | false => exact ih up fl3 p
      | true =>
        simp only at p
        by_cases fr : free ρ h.ix = true
        case neg =>
          rw [if_neg fr] at p
          exact p.elim
        rw [if_pos fr] at p
        rw [hsu]
        refine codeAny_handlers_suite_as ?_
        refine HandSPX.lands_againZ fl3 fun h4 fl4 up4 => ?_
        have J4 : Inv X pins σ H { s' with heap := h4 } := J.landed nb fl4.1 (up.trans up4) os ag
        obtain ⟨oe4, vs4, he4, hz4, hd4⟩ := fl4.there
        have S4 := Inv.suiteT (d := d) J4 he4 hz4.1 hz4.2 hd4 na nL n0 np
        refine store_ok (X := X.suite a (X.pn ++ pins)) (v := .ref a) S4 C.nd Hh.ix (.inl Hh.lo) rfl (fun s5 S5 => ?_) (.inr Hh.lo)
        have gn : G a = none := R.gnone na
        have R2 := R.lay2 (o := exh (e.ca c) a d) na
        have dr : DR e (upd G a (exh (e.ca c) a d)) (.ref a) (.exc c fs) := by
          cases xr with
          | e0 => exact .exc0 upd_same
          | e1 h1 h2 => exact .exc1 upd_same (same_upd gn _ _ h1) (h2.mono (same_upd gn))
        have R3 := R2.put (i := h.ix) (Val.fz dr)
        have post : PostS e WF Fo (upd G a (exh (e.ca c) a d)) (σ.set h.ix (some (.ref a))) (ρ.set h.ix (.fz (.exc c fs))) (h.su (ρ.set h.ix (.fz (.exc c fs)))) { nx := fun σ' H' => En.nx (σ'.set h.ix none) H', rt := En.rt, bk := fun σ' H' => En.bk (σ'.set h.ix none) H', ct := fun σ' H' => En.ct (σ'.set h.ix none) H' } := by
          have sg := same_upd (o := exh (e.ca c) a d) gn
          cases q : h.su (ρ.set h.ix (.fz (.exc c fs))) with
          | nx ρ2 =>
            rw [q] at p
            exact fun G' σ' H' g k R' => p G' _ H' (sg.trans g) (free_keep2 (t := .no) fr k) R'.gone
          | bk ρ2 =>
            rw [q] at p
            exact fun G' σ' H' g k R' => p G' _ H' (sg.trans g) (free_keep2 (t := .no) fr k) R'.gone
          | ct ρ2 =>
            rw [q] at p
            exact fun G' σ' H' g k R' => p G' _ H' (sg.trans g) (free_keep2 (t := .no) fr k) R'.gone
          | rt ρ2 s =>
            rw [q] at p
            exact fun G' σ' H' v g k R' hv => p G' σ' H' v (sg.trans g) (free_keep3 fr k) R' hv
          | exc ρ2 c2 fs2 => rw [q] at p; exact p.elim
          | bad => rw [q] at p; exact p.elim
        refine wpAny_mono (((by rw [← hsu]; exact Hh.su a (X.pn ++ pins)) : PSs (X.suite a (X.pn ++ pins)) (b0 :: r) (tS e WF h.su)).run [] s5 _ _ _ S5 ⟨Fo, _, _, R3, post⟩) (fun f s6 hsp => ?_) (fun _ _ z => False.elim z)
        have end_ : ∀ {σ6 : St} {H6 : Hp} {Q : Shared → Prop}, Inv (X.suite a (X.pn ++ pins)) [] σ6 H6 s6 → (∀ s7, Inv X pins (σ6.set h.ix none) H6 s7 → Q s7) →
            wpAny (model X.prog X.w) X.A (do bindName X.env n .none; unbindBehindTheSuite X.env n pos) (fun _ s7 => Q s7) X.xe s6 := fun {σ6 H6 Q} S6 hq => gone_ok (Inv.unsuiteT S6 ok) C.nd Hh.ix Hh.lo hq
        cases f with
        | next =>
          obtain ⟨σ6, H6, S6, q6⟩ := hsp
          exact end_ S6 fun s7 J7 => ⟨_, _, J7, q6⟩
        | brk =>
          obtain ⟨σ6, H6, S6, q6⟩ := hsp
          exact end_ S6 fun s7 J7 => ⟨_, _, J7, q6⟩
        | cont =>
          obtain ⟨σ6, H6, S6, q6⟩ := hsp
          exact end_ S6 fun s7 J7 => ⟨_, _, J7, q6⟩
        | ret u =>
          obtain ⟨v6, σ6, H6, S6, r6, q6⟩ := hsp
          exact end_ S6 fun s7 J7 => ⟨_, _, _, J7, r6, q6⟩
theorem sky_none {B : Heap} {l : List Env} {a : Addr} {Z : Obj → Prop} {L : Addr} {h : Heap} (x : Sky B l a Z L h) : B.get? a = none := by
  rcases x with ⟨_, h, _⟩ | ⟨_, h, _⟩ | ⟨_, h, _⟩ <;> exact h
theorem ss_try {body : List Stmt} {es : List ExceptHandler} {hds : List Hd} {b : So} {pos : Pos} {h0 : ExceptHandler} (C : EC X e W) (hs : X.stack = X.env :: X.outer) (hf : X.env.frame = some X.env.locals) (hex : X.ex = [])
    (hb : ∀ (W' : WX) (pn : List (Addr × Obj)) (xe : Value → Shared → Prop), EC (X.tr pn xe) e W' → PSs (X.tr pn xe) body (tS e W' b)) (ho : HdsOk X e (h0 :: es) hds) :
    PS X (.Try body (h0 :: es) [] [] pos) (tS e W (tryS b hds)) := by
  refine ⟨fun pins s σ H En I hw => ?_⟩
  obtain ⟨Fo0, G0, ρ0, R0, p0⟩ := hw
  have ok := I.ok
  have hfr : X.A.frames = some (X.env :: X.outer) := by rw [ok.frames, hs]
  have p1 : PostS e (wT e hds W En) Fo0 G0 σ ρ0 (b ρ0) En := by
    unfold tryS at p0
    cases q : b ρ0 with
    | exc ρ1 c fs =>
      rw [q] at p0
      exact fun G' σ' H' cls od g k R' x => ⟨Fo0, G', ρ1, c, fs, R', x, p0.from g k⟩
    | nx ρ1 => rw [q] at p0; exact p0
    | bk ρ1 => rw [q] at p0; exact p0
    | ct ρ1 => rw [q] at p0; exact p0
    | rt ρ1 s => rw [q] at p0; exact p0
    | bad => rw [q] at p0; exact p0
  refine wpAny_Try_except ?_
  refine wpAny_mono ((hb (wT e hds W En) (X.pn ++ pins) (fun e s₁ => wpAny (model X.prog X.w) X.A (noteFrame e X.env) (fun _ s₂ => wpAny (model X.prog X.w) X.A (setFlight e none) (fun _ s₃ =>
    wpAny (model X.prog X.w) X.A (handleBy e X.env (h0 :: es)) (SP X pins En) X.xe s₃) X.xe s₂) X.xe s₁) ⟨C.K, C.mg, C.nd, fun u s' xx => ?_, PassesOwn.looking⟩).run [] s σ H En (I.toTry _) ⟨Fo0, G0, ρ0, R0, p1⟩) (fun f s1 hsp => ?_) (fun e s1 he => he)
  · obtain ⟨a, B, sI, pins', σ', H', cls, d, rfl, J', nb, up, sky, na, os, ag, Fo, G, ρ, c, fs, R, xr, p⟩ := xx
    have J : Inv X pins σ' H' sI := J'.ofTry ok
    have ecl : cls = .ref (e.ca c) := by cases xr <;> rfl
    subst ecl
    have sky' : Sky B (X.env :: X.outer) a (Zc (.ref (e.ca c)) d) X.env.locals s'.heap := by rw [← hs]; exact sky
    show wpAny (model X.prog X.w) X.A (noteFrame (.ref a) X.env) _ _ _
    refine Sky.land Zc.steady hfr hf sky' fun h3 fl3 up3 => ?_
    exact handle_ok (h3 := h3) C hs hf hex ok J nb na os ag R xr (sky_none sky') ho (up.trans up3) fl3 p
  · cases f with
    | next =>
      obtain ⟨σ', H', J', q⟩ := hsp
      exact wpAny_execs_nil ⟨σ', H', J'.ofTry ok, q⟩
    | brk =>
      obtain ⟨σ', H', J', q⟩ := hsp
      exact ⟨σ', H', J'.ofTry ok, q⟩
    | cont =>
      obtain ⟨σ', H', J', q⟩ := hsp
      exact ⟨σ', H', J'.ofTry ok, q⟩
    | ret u =>
      obtain ⟨v, σ', H', J', r, q⟩ := hsp
      exact ⟨v, σ', H', J'.ofTry ok, r, q⟩
end
end L2.WD
/-! The data layer, part 13: enumerate over any sequence. -/
namespace PySem
open Sem (wp)
theorem wd_meets_enum1 {v : Value} {o : Obj} {H : Heap → Prop} (B : Begins v o H) :
    Meets (Builtin.«enumerate.__new__» ⟨[.type "enumerate", v], []⟩) (fun _ R s => H s.heap ∧
      R (.ok (.ret (.ref (s.heap.push o).objs.size))) { s with heap := (s.heap.push o).push { cls := .type "enumerate", data := .fields #[.none, .bool false, .ref s.heap.objs.size, rawInt 0, .none, .none] } }) :=
  .of_wp fun prog w A R s h => by
    obtain ⟨hp, g, d, tk, os⟩ := s; obtain ⟨h1, h⟩ := h
    have hsub := sub_enumerate
    have q1 : ∀ {A' : Around} {E : Value → Shared → Prop} {Q : Value → Shared → Prop}, Q (.ref hp.objs.size) ⟨hp.push o, g, d, tk, os⟩ → wpAny (model prog w) A' (pyIter v) Q E ⟨hp, g, d, tk, os⟩ :=
      fun q => B.iter prog w _ _ ⟨hp, g, d, tk, os⟩ _ h1 q
    wp_walk using q1
    refine wpAny_stack_any fun st => wpAny_pure ?_
    split
    · rename_i c _ _ _ _ _
      cases (c == Value.type "enumerate")
      · wp_walk using q1
        exact ⟨_, rfl, h⟩
      · wp_walk using q1
        exact ⟨_, rfl, h⟩
    · wp_walk using q1
      exact ⟨_, rfl, h⟩
section
variable {prog : Program} {w : World} {A : Around} {E : Value → Shared → Prop} {s : Shared}
theorem wd_enum_begins {v : Value} {o : Obj} {H : Heap → Prop} {Q : Value → Shared → Prop} (B : Begins v o H) (h1 : H s.heap)
    (h : ∀ h', IsEnum h' (s.heap.objs.size + 1) s.heap.objs.size 0 .none → h'.get? s.heap.objs.size = some o → h'.objs.size = s.heap.objs.size + 2 →
      (∀ b o, s.heap.get? b = some o → h'.get? b = some o) → Q (.ref (s.heap.objs.size + 1)) { s with heap := h' }) :
    wpAny (model prog w) A (call (.type "enumerate") [v]) Q E s := by
  refine callType_new F.called_enumerate (by decide) (F.typeCall_enumerate_1 _) (F.newCall_enumerate_1 _) (fun obj => F.args_object_init_2 obj _) F.entry_enumerate_new
    (wd_meets_enum1 B) ⟨h1, ?_⟩
  have hz : (s.heap.push o).objs.size = s.heap.objs.size + 1 := Heap.size_push ..
  show _ ∧ _
  rw [hz]
  have he : IsEnum ((s.heap.push o).push { cls := .type "enumerate", data := .fields #[.none, .bool false, .ref s.heap.objs.size, rawInt 0, .none, .none] }) (s.heap.objs.size + 1) s.heap.objs.size 0 .none := by
    have := Heap.get?_push_size (s.heap.push o) (o := { cls := .type "enumerate", data := .fields #[.none, .bool false, .ref s.heap.objs.size, rawInt 0, .none, .none] }) rfl
    rw [hz] at this; exact this
  refine ⟨⟨_, he, rfl⟩, h _ he (Heap.get?_push_of_some _ (Heap.get?_push_size _ B.free)) (by rw [Heap.size_push, hz]) fun b o x => Heap.get?_push_of_some _ (Heap.get?_push_of_some _ x)⟩
end
end PySem
namespace L2.WD
open PySem PySem.Spec PySem.Calls PyProof.Rows
/-- the tuple at a, each item in a new pair -/
def Iet (K : PySem.W.Frag) (a : Addr) : It :=
  ⟨fun i H => ∃ (xs : List V) (x : V), SqT K H a xs ∧ xs[i]? = some x, fun i H v H' => ∃ T x, v = .ref T ∧ H T = none ∧ H' = upd H T (.tup [.int (i : Nat), x]) ∧ ∀ xs, SqT K H a xs → xs[i]? = some x, fun i H => ∃ xs : List V, SqT K H a xs ∧ xs.length = i⟩
theorem turn_enumT {P : Program} {w : World} {K : PySem.W.Frag} {elts : List Expr} {kk : Nat} {tpos : Pos} (a e it : Addr) :
    Turn P w K (.Tuple elts kk tpos) (Iet K a) [e, it] e (fun i h => (∃ old, IsEnum h e it ((i : Nat) : Int) old) ∧ h.IsTupleIter it a i ∧ e ≠ it) where
  mem := by simp
  obj := fun i h st b hb => by
    obtain ⟨⟨old, he⟩, ⟨o, ho, hc, hd⟩, _⟩ := st
    have e' : b = e ∨ b = it := by simpa using hb
    rcases e' with z | z
    · rw [z]; exact ⟨_, he, fun v q => nomatch q⟩
    · rw [z]; exact ⟨o, ho, fun v q => by rw [hd] at q; cases q⟩
  keep := fun i h h' st k => let ⟨⟨old, he⟩, hi, hne⟩ := st; ⟨⟨old, k e (by simp) _ he⟩, hi.at fun o q => k it (by simp) o q, hne⟩
  item := by
    intro X hP hw hK hc i pins s σ H E I hf st hg
    subst hP hw hK
    obtain ⟨⟨old, he⟩, hit, hne⟩ := st
    obtain ⟨xs, x, hq, hx⟩ := hg
    obtain ⟨its, rv, p, hz⟩ := I.tuple hq
    have p' : s.heap.IsTuple a its.toArray := p
    obtain ⟨u, hu, ru⟩ := rv.get hx
    have hel : e < s.heap.objs.size := Heap.lt_size he
    have hil : it < s.heap.objs.size := by obtain ⟨_, q, _⟩ := hit; exact Heap.lt_size q
    have hai : a ≠ it := fun z => by
      obtain ⟨o1, h1, h2, h3⟩ := p'
      obtain ⟨o2, h4, h5, h6⟩ := hit
      rw [z, h4] at h1
      cases h1
      rw [h5] at h2
      exact absurd (Value.type.inj h2) (by decide)
    have hea : e ≠ a := fun z => by
      obtain ⟨o1, h1, h2, h3⟩ := p'
      rw [← z, show s.heap.get? e = some _ from he] at h1
      cases h1
      exact absurd (Value.type.inj h2) (by decide)
    have hil2 : i < its.toArray.size := by
      have := (List.getElem?_eq_some_iff.mp hx).1
      simp only [List.size_toArray]
      rw [← rv.length]
      exact this
    refine wpAny_pyNext_enum_itemD (Draws.tuple (A := X.A.in1) (I.ok.hd hc) it a hai its.toArray) he ⟨hit, p'⟩ hil2 hne (by simp [hne, hea]) fun y h' tk hy ho hst hT hsz hk => ?_
    have ey : y = u := by
      rw [show its.toArray[i]? = its[i]? from by simp, hu] at hy
      exact (Option.some.inj hy).symm
    subst ey
    refine ⟨_, rfl, wpAny_letOwnedTupleGo_enum (s := { s with heap := h', toks := tk + 1 }) ho fun h'' he' sb => ?_⟩
    have hT2 : h''.get? s.heap.objs.size = some { cls := .type "tuple", data := .seq #[.int i tk, y] } := (sb.2 _ (Nat.ne_of_gt hel)).trans hT
    have new : ObjOk X.prog X.w (upd H s.heap.objs.size (.tup [.int (i : Nat), x])) h'' s.heap.objs.size (.tup [.int (i : Nat), x]) :=
      ⟨by show 2 ≤ sizeLine; decide, [.int i tk, y], .cons ⟨_, rfl⟩ (.cons ru .nil), ⟨_, hT2, rfl, _, rfl⟩⟩
    have I1 : Inv X pins σ (upd H s.heap.objs.size (.tup [.int (i : Nat), x])) { s with heap := h'', toks := tk + 1 } :=
      I.turnedNew (ch := [e, it]) (fun b ob hb q => (sb.2 b (fun z => hb (by simp [z]))).trans (hk b ob (fun z => hb (by simp [z])) (fun z => hb (by simp [z])) q)) hf (Nat.le_refl _) new
    refine ⟨.ref s.heap.objs.size, _, I1, rfl, ⟨_, x, rfl, I.hok.fresh (Nat.le_refl _), rfl, fun ys hy => ?_⟩, ⟨⟨y, ?_⟩, hst.1.at fun o q => (sb.2 it (Ne.symm hne)).trans q, hne⟩, fun b hb => ?_⟩
    · rw [I.tuple_inj hy hq]; exact hx
    · have e1 : ((i + 1 : Nat) : Int) = (i : Int) + 1 := by omega
      rw [e1]; exact he'
    · have hb' : b < s.heap.objs.size := by
        have e' : b = e ∨ b = it := by simpa using hb
        rcases e' with z | z
        · rw [z]; exact hel
        · rw [z]; exact hil
      rw [upd_ne (Nat.ne_of_lt hb')]
      exact (hf b hb).1
  done := by
    intro X hP hw hK hc i pins s σ H E I hf st hg
    subst hP hw hK
    obtain ⟨⟨old, he⟩, hit, hne⟩ := st
    obtain ⟨xs, hq, hx⟩ := hg
    obtain ⟨its, rv, p, hz⟩ := I.tuple hq
    have p' : s.heap.IsTuple a its.toArray := p
    obtain ⟨f0, f1, f2, f3, f4, f5⟩ := hf it (by simp)
    have hl := rv.length
    have hai : a ≠ it := fun z => by
      obtain ⟨o1, h1, h2, h3⟩ := p'
      obtain ⟨o2, h4, h5, h6⟩ := hit
      rw [z, h4] at h1
      cases h1
      rw [h5] at h2
      exact absurd (Value.type.inj h2) (by decide)
    have hil2 : i = its.toArray.size := by
      simp only [List.size_toArray]
      rw [← hl, hx]
    rw [hil2] at he hit
    exact wpAny_pyNext_enum_endD (Draws.tuple (A := X.A.in1) (I.ok.hd hc) it a hai its.toArray) he ⟨hit, p'⟩ fun h' eb => ⟨rfl, I.turned (t' := s.toks) (fun b o hb q => eb b o hb q) f0 f1 f3 f4 f5⟩
  self := fun A i s Q E st h => let ⟨⟨_, he⟩, _⟩ := st; wpAny_pyIter_enum he h

/-- enumerate(a list, a tuple): whichever it is -/
def iEnA (K : PySem.W.Frag) (ta : TA) : TI := fun σ H R => ta σ H fun vs H1 => ∃ a, vs = [.ref a] ∧ ((∃ xs, SqL K H1 a xs) ∧ R (Ite K a) H1 ∨ (∃ xs, SqT K H1 a xs) ∧ R (Iet K a) H1)
theorem pi_enumA {X : Cx} {e : Expr} {ta : TA} {p pos tpos : Pos} {elts : List Expr} {kk : Nat} (hg : Gl X "enumerate") (hm : X.mg "enumerate" = none) (ha : PA X [e] ta) (hs : starEach [e] X.env = [(false, eval e X.env)] := by rfl) :
    PI X (.Tuple elts kk tpos) (.Call (.Name "enumerate" p) [e] [] pos) (iEnA X.K ta) := by
  refine ⟨fun pins s σ H R I h => ?_⟩
  refine Call_ (ld_blt I hg hm boot_enumerate (PyProof.Rows.callWith_type1 (thn (ha.run pos pins s σ H _ I h) fun us s1 ⟨vs, H1, I1, r1, q1⟩ => ?_) hs rfl))
  obtain ⟨a, ex, q1⟩ := q1
  subst ex
  cases r1 with
  | cons r rr =>
    cases rr
    cases r
    have hle : ∀ b : Addr, b = s1.heap.objs.size + 1 ∨ b = s1.heap.objs.size → s1.heap.objs.size ≤ b := fun b hb => by
      rcases hb with z | z
      · rw [z]; exact Nat.le_add_right _ _
      · rw [z]; exact Nat.le_refl _
    rcases q1 with ⟨⟨xs, hq⟩, q⟩ | ⟨⟨xs, hq⟩, q⟩
    · obtain ⟨its, rv, p', hz⟩ := I1.list hq
      refine call_enumerate_list p'.isList fun h' he hit hsz hk => wpAny_pyIter_enum he ?_
      have I2 : Inv X pins σ H1 { s1 with heap := h' } := I1.kept (t' := s1.toks) hk
      refine ⟨s1.heap.objs.size + 1, [s1.heap.objs.size + 1, s1.heap.objs.size], _, _, H1, rfl, I2, turn_enum a (s1.heap.objs.size + 1) s1.heap.objs.size, ⟨⟨.none, he⟩, hit, Nat.succ_ne_self _⟩, fun b hb => ?_, q⟩
      have := hle b (by simpa using hb)
      exact I1.fpOk this (I1.hok.fresh this)
    · obtain ⟨its, rv, p', hz⟩ := I1.tuple hq
      refine wd_enum_begins (begins_tuple a its.toArray) (show s1.heap.IsTuple a its.toArray from p') fun h' he hit hsz hk => wpAny_pyIter_enum he ?_
      have I2 : Inv X pins σ H1 { s1 with heap := h' } := I1.kept (t' := s1.toks) hk
      refine ⟨s1.heap.objs.size + 1, [s1.heap.objs.size + 1, s1.heap.objs.size], _, _, H1, rfl, I2, turn_enumT a (s1.heap.objs.size + 1) s1.heap.objs.size, ⟨⟨.none, he⟩, ⟨_, hit, rfl, rfl⟩, Nat.succ_ne_self _⟩, fun b hb => ?_, q⟩
      have := hle b (by simpa using hb)
      exact I1.fpOk this (I1.hok.fresh this)
/-- the items with their numbers -/
def numD : Nat → List D → List D
  | _, [] => []
  | n, d :: ds => .tup [.int n, d] :: numD (n + 1) ds
theorem numD_get : ∀ (ds : List D) (n i : Nat) (d : D), ds[i]? = some d → (numD n ds)[i]? = some (.tup [.int ((n + i : Nat) : Int), d])
  | [], _, _, _, h => by simp at h
  | d :: ds, n, 0, d', h => by simp at h; subst h; rfl
  | d :: ds, n, i + 1, d', h => by
    have := numD_get ds (n + 1) i d' (by simpa using h)
    rw [show n + 1 + i = n + (i + 1) by omega] at this
    simpa [numD] using this
theorem numD_length : ∀ (ds : List D) (n : Nat), (numD n ds).length = ds.length
  | [], _ => rfl
  | _ :: ds, n => by simp [numD, numD_length ds]
/-- the items of a thing that is numbered (a text is not) -/
def enumD : D → Option (List D)
  | .lst xs => some (numD 0 xs)
  | .tup xs => some (numD 0 xs)
  | .scr ns => some (numD 0 (ns.map D.int))
  | _ => none
def enX (f : Mo D) : Mo (List D) := Mo.bind f fun d ρ => retO ρ (enumD d)
section
variable {X : Cx} {e : Ev} {W : WX} {Fo G H : Hp} {σ : St} {ρ : List Sl}
theorem wk_pair {J : It} {ws : List V} {xs : List D} {Y : Nat → Hp → V → Hp → Prop} {p : Hp → Prop} (w : Walk J ws.length p Y) (hp : ∀ H, (∃ G1, L2.Same G G1 ∧ L2.Same G1 H) → p H)
    (hy : ∀ i H x H', p H → Y i H x H' → ∃ T y, x = .ref T ∧ H T = none ∧ H' = upd H T (.tup [.int (i : Nat), y]) ∧ ws[i]? = some y) (r : DRs e G ws xs) : Wk e Fo G σ H ρ J (numD 0 xs) := by
  refine ⟨fun i H x H' => p H ∧ Y i H x H', ?_, fun i H x H' G1 g h1 hi y => ?_⟩
  · rw [numD_length, ← r.length]
    refine w.mono hp fun i H x H' _ pq y => ⟨hp H pq, y⟩
  · obtain ⟨T, y', rfl, nT, eH, hw⟩ := hy i H x H' y.1 y.2
    rw [numD_length] at hi
    obtain ⟨v, h2, h3⟩ := r.get (List.getElem?_eq_getElem hi)
    rw [hw] at h2
    cases h2
    have gT := h1.free nT
    refine ⟨upd G1 T (.tup [.int (i : Nat), y']), _, numD_get xs 0 i _ (List.getElem?_eq_getElem hi), ?_, ?_⟩
    · rw [eH]
      exact Gr.lay2 h1 nT
    · have e0 : ((0 + i : Nat) : Int) = (i : Int) := by omega
      rw [e0]
      exact .tup (SqT.of upd_same) (.cons (.int _) (.cons (h3.mono (g.trans (same_upd gT))) .nil))

theorem xi_enum {l : Expr} {f : Mo D} {p pos tpos : Pos} {elts : List Expr} {kk : Nat} (C : EC X e W) (hg : Gl X "enumerate") (hm : X.mg "enumerate" = none) (hl : PE X l (tD e W f)) (hs : starEach [l] X.env = [(false, eval l X.env)] := by rfl) :
    PI X (.Tuple elts kk tpos) (.Call (.Name "enumerate" p) [l] [] pos) (tI e W (enX f)) := (pi_enumA hg hm (pa_cons hl pa_nil hs) hs).imp fun σ H Q ⟨Fo, G, ρ, R, p⟩ => by
  refine tG.mono (Post.bind R p) fun v H1 ⟨G1, ρ1, d, g1, R1, r1, p1⟩ => ?_
  have r2 : DR e G1 v d := r1
  rw [C.K]
  cases r2 with
  | @lst a ws ds h r =>
    refine ⟨a, rfl, .inl ⟨⟨_, SqL.of (R1.gh _ _ h)⟩, p1.here R1 (wk_pair (ws := ws) walk_enum (fun H ⟨G2, g2, h2⟩ => Same.seqL (g2.trans h2) (SqL.of h)) (fun i H x H' _ ⟨T, v, w, h1, h2, h3, h4, h5⟩ => ?_) r)⟩⟩
    cases h4
    exact ⟨T, w, h1, h2, h3, h5⟩
  | @scr a ns h =>
    refine ⟨a, rfl, .inl ⟨⟨_, Same.seqL R1.gh h⟩, p1.here R1 (wk_pair (ws := ns.map V.int) walk_enum (fun H ⟨G2, g2, h2⟩ => Same.seqL (g2.trans h2) h) (fun i H x H' _ ⟨T, v, w, h1, h2, h3, h4, h5⟩ => ?_) (.of_ints _))⟩⟩
    cases h4
    exact ⟨T, w, h1, h2, h3, h5⟩
  | @tup a ws ds h r =>
    refine ⟨a, rfl, .inr ⟨⟨_, Same.seqT R1.gh h⟩, p1.here R1 (wk_pair (ws := ws) (Y := fun i H x H' => ∃ T y, x = .ref T ∧ H T = none ∧ H' = upd H T (.tup [.int (i : Nat), y]) ∧ ws[i]? = some y) ⟨fun i _ hi q => ⟨ws, ws[i], q, by simp [hi]⟩, fun _ q => ⟨ws, q, rfl⟩, fun i H v H' _ q y => ?_⟩
      (fun H ⟨G2, g2, h2⟩ => Same.seqT (g2.trans h2) h) (fun i H x H' _ y => y) r)⟩⟩
    obtain ⟨T, x, h1, h2, h3, h4⟩ := y
    exact ⟨T, x, h1, h2, h3, h4 ws q⟩
  | _ => exact p1.elim
end
end L2.WD
/-! The data layer, part 14: a list's place is stored to; {}; calls by names. -/
namespace L2.WD
open PySem PySem.Spec PySem.Calls PyProof.Rows

/-! ### l[i] = .. -/
def hasOw (ρ : List Sl) (i : Nat) : Bool := match ρ[i]? with
  | some (.ow _ _) => true
  | _ => false
def gSubD (i : Nat) (fi : Mo Ar) : D → So := fun d ρ => if hasOw ρ i = true then match fi ρ with
  | .ok ρ1 a => (match con ρ1 a, ρ1[i]? with
    | some (.int k), some (.ow m xs) => (match ixN xs.length k with
      | some j => .nx (ρ1.set i (.ow m (xs.set j d)))
      | none => .bad)
    | _, _ => .bad)
  | _ => .bad
  else .bad
section
variable {X : Cx} {e : Ev} {W : WX} {pos : Pos}
theorem sg_sub {i : Nat} {l ix : Expr} {fi : Mo Ar} (ho : PE X l (tVar i)) (hi : PE X ix (tO e W fi))
    (ha : ∀ v, assign (.Subscript l ix pos) X.env v = (do
      let ov ← holding [v] (eval l X.env)
      let iv ← holding [v, ov] (eval ix X.env)
      standAt pos
      holding [v, ov, iv] (setItem ov iv v)
      release [v, ov, iv] []) := by intro _; rfl) : PG X (.Subscript l ix pos) (tgR e [] (gSubD i fi)) :=
  (pg_sub ho hi set_list ha).imp fun v σ H Q ⟨Fo, G, ρ, d, R, r, ρ', h, q⟩ => by
    unfold gSubD at h
    by_cases h0 : hasOw ρ i = true
    case neg =>
      rw [if_neg h0] at h
      cases h
    rw [if_pos h0] at h
    have hs0 : ∃ o, σ[i]? = some (some o) := by
      unfold hasOw at h0
      split at h0
      · rename_i m xs hq
        obtain ⟨o, h1, h2⟩ := R.get hq
        cases h2 with
        | own _ => exact ⟨_, h1⟩
      · cases h0
    obtain ⟨o, ho⟩ := hs0
    cases q1 : fi ρ with
    | bad => rw [q1] at h; cases h
    | exc ρ1 c fs => rw [q1] at h; cases h
    | ok ρ1 a =>
      rw [q1] at h
      simp only at h
      cases q2 : con ρ1 a with
      | none => simp only [q2] at h; cases h
      | some da =>
        cases q3 : ρ1[i]? with
        | none => simp only [q2, q3] at h; cases da <;> cases h
        | some s =>
          simp only [q2, q3] at h
          cases da with
          | int k =>
            cases s with
            | ow m xs =>
              simp only at h
              cases q4 : ixN xs.length k with
              | none => simp only [q4] at h; cases h
              | some j =>
                simp only [q4] at h
                cases h
                -- the list is looked at ahead of the place
                have fin : ∀ (o : V), σ[i]? = some (some o) → tO e W fi σ H (fun iv H2 => rSetL o iv v H2 fun H3 => Q σ H3) := fun o ho => by
                  refine ⟨Fo, G, ρ, R, ?_⟩
                  rw [q1]
                  intro G2 H2 iv g2 k2 R2 ra
                  obtain ⟨o', h1, h2⟩ := R2.get q3
                  rw [ho] at h1
                  cases h1
                  cases h2 with
                  | @own b _ hq =>
                    cases hq with
                    | @ow _ ws _ a1 a2 a3 a4 =>
                      refine ⟨b, ws, k, j, rfl, (ra.co R2 q2).int, a1, by rw [a2.length]; exact q4, ?_⟩
                      exact q G2 σ _ g2 (k2.trans (keep_ow q3)).toS (R2.upd_own q3 ho (a2.set (r.mono g2) j)) rfl fun _ _ => rfl
                exact ⟨o, ho, fin o ho⟩
            | _ => cases h
          | _ => cases s <;> cases h
end
/-! ### {} -/
def dic0X : Mo Sl := fun ρ => .ok ρ (.fz (.dic []))
section
variable {X : Cx} {e : Ev} {W : WX} {pos : Pos}
theorem xx_dic0 : PE X (.Dict [] [] pos) (tX e W dic0X) := pe_dnewK.imp fun σ H Q ⟨Fo, G, ρ, R, p⟩ pa np =>
  p _ _ _ (same_upd (R.gnone np)) (Keep.refl _) (R.lay2 np) (Val.fz (.dic upd_same .nil))
end
/-! ### calls by names -/
/-- the parameters' values, out of what is written and what is set ahead -/
def selL {α : Type} (perm : List Nat) (l : List α) : List α := perm.filterMap fun i => l[i]?
theorem selL_length {α : Type} {l : List α} : ∀ {perm : List Nat}, (∀ i ∈ perm, i < l.length) → (selL perm l).length = perm.length
  | [], _ => rfl
  | i :: perm, h => by
    have h1 := h i (List.mem_cons_self ..)
    unfold selL
    rw [List.filterMap_cons, List.getElem?_eq_getElem h1]
    simp only [List.length_cons]
    exact congrArg Nat.succ (selL_length (perm := perm) fun j hj => h j (List.mem_cons_of_mem _ hj))
theorem vals_sel {vs : List V} {us : List Value} (r : Vals vs us) : ∀ (perm : List Nat), Vals (selL perm vs) (selL perm us)
  | [] => .nil
  | i :: perm => by
    have ih := vals_sel r perm
    unfold selL at ih ⊢
    rw [List.filterMap_cons, List.filterMap_cons]
    by_cases c : i < vs.length
    · have c2 : i < us.length := by rw [← r.length]; exact c
      rw [List.getElem?_eq_getElem c, List.getElem?_eq_getElem c2]
      obtain ⟨u, h1, h2⟩ := r.get (List.getElem?_eq_getElem c)
      rw [List.getElem?_eq_getElem c2] at h1
      cases h1
      exact .cons h2 ih
    · have c2 : ¬ i < us.length := by rw [← r.length]; exact c
      rw [List.getElem?_eq_none (by omega), List.getElem?_eq_none (by omega)]
      exact ih
theorem ars_sel {e : Ev} {G : Hp} {σ : St} {vs : List V} {as : List Ar} (r : ArRs e G σ vs as) : ∀ (perm : List Nat), ArRs e G σ (selL perm vs) (selL perm as)
  | [] => .nil
  | i :: perm => by
    have ih := ars_sel r perm
    unfold selL at ih ⊢
    rw [List.filterMap_cons, List.filterMap_cons]
    by_cases c : i < as.length
    · have c2 : i < vs.length := by rw [r.length]; exact c
      rw [List.getElem?_eq_getElem c, List.getElem?_eq_getElem c2]
      obtain ⟨u, h1, h2⟩ := r.get (List.getElem?_eq_getElem c)
      rw [List.getElem?_eq_getElem c2] at h1
      cases h1
      exact .cons h2 ih
    · have c2 : ¬ i < vs.length := by rw [r.length]; exact c
      rw [List.getElem?_eq_none (by omega), List.getElem?_eq_none (by omega)]
      exact ih
theorem ArRs.append {e : Ev} {G : Hp} {σ : St} : ∀ {vs ws : List V} {as bs : List Ar}, ArRs e G σ vs as → ArRs e G σ ws bs → ArRs e G σ (vs ++ ws) (as ++ bs)
  | _, _, _, _, .nil, s => s
  | _, _, _, _, .cons h r, s => .cons h (ArRs.append r s)
theorem ArRs.of_drs {e : Ev} {G : Hp} {σ : St} : ∀ {vs : List V} {ds : List D}, DRs e G vs ds → ArRs e G σ vs (ds.map .vl)
  | _, _, .nil => .nil
  | _, _, .cons h r => .cons h (ArRs.of_drs r)
section
variable {K : PySem.W.Frag} {x qual : Str} {params : Arguments} {body : List Stmt} {scope : Scope} {dvs : List V} {kws : List (Str × V)} {f : Addr} {fd : FuncData} {ps : List Str}
/-- no defaults -/
theorem kb0 (F : FunD K x qual params body scope [] [] f fd) (n : Nat) (ks : List Str) (perm : List Nat)
    (h : ∀ (kV doc pm : Value) (an : Option Addr) (cdv ct : Value) (us ws : List Value), us.length = n → ws.length = ks.length → bindArgs (PySem.W.fnOf x qual params body scope .none kV doc pm an cdv ct) ⟨us, ks.zip ws⟩ = pure (ps.zip (selL perm (us ++ ws)))) :
    ∃ g, KBn K fd ps n ks g (fun vs zs => selL perm (vs ++ zs ++ [])) := by
  obtain ⟨oc, od, dV, kV, doc, pm, an, cdv, ct, osl, rfl, lk, hcd, hD, hK⟩ := F.ex
  rcases hD with ⟨_, rfl⟩ | ⟨e, _⟩
  · refine ⟨fun us ws => selL perm (us ++ ws), fun s us ws X l1 l2 => BindsTo.of_eq (h kV doc pm an cdv ct us ws l1 l2), fun r1 r2 => ?_⟩
    rw [List.append_nil]
    exact vals_sel (r1.append r2) perm
  · exact absurd rfl e
theorem kbD (F : FunD K x qual params body scope dvs kws f fd) (n : Nat) (ks : List Str) (perm : List Nat) (hd : dvs ≠ [])
    (h : ∀ (T : Addr) (kV doc pm : Value) (an : Option Addr) (cdv ct : Value) (us its ws : List Value), us.length = n → its.length = dvs.length → ws.length = ks.length →
      ∃ k, bindArgs (PySem.W.fnOf x qual params body scope (.ref T) kV doc pm an cdv ct) ⟨us, ks.zip ws⟩ = seqItems? (.ref T) >>= k ∧ k (some its.toArray) = pure (ps.zip (selL perm (us ++ ws ++ its)))) :
    ∃ g, KBn K fd ps n ks g (fun vs zs => selL perm (vs ++ zs ++ dvs)) := by
  obtain ⟨its, b⟩ := F.kbindsD n ks (fun {α} vs ds zs => selL perm (vs ++ zs ++ ds)) hd (fun r1 r2 r3 => vals_sel ((r1.append r3).append r2) perm) h
  exact ⟨_, b⟩
end
section
variable {X : Cx} {e : Ev} {W : WX} {a : Expr} {es : List Expr} {kws : List Keyword} {pos p kpos : Pos} {x : Str} {nm : Option Str} {k n : Nat} {f : Addr} {fd : FuncData} {ps ks : List Str} {F : Mo Sl} {dvs : List V} {more : List D} {perm : List Nat} {fa fk : Mo (List Ar)} {g : List Value → List Value → List Value}
theorem _root_.L2.PK.imp {t t' : TA} (h : PK X kws t) (i : ∀ σ H Q, t' σ H Q → t σ H Q) : PK X kws t' := ⟨fun p pins s σ H Q I w => h.run p pins s σ H Q I (i σ H Q w)⟩
theorem xk_nil : PK X [] (tA e W nilA) := pk_nil.imp fun σ H Q ⟨Fo, G, ρ, R, p⟩ => p.here R .nil
theorem xk_cons {fo : Mo Ar} (h1 : PE X a (tO e W fo)) (h2 : PK X kws (tA e W fk)) : PK X (⟨nm, a, kpos⟩ :: kws) (tA e W (consA fo fk)) := (pk_cons h1 h2).imp fun σ H Q ⟨Fo, G0, ρ, R, p⟩ => by
  refine tG.mono (Post.bind R p) fun x H1 ⟨G1, ρ1, a1, g1, R1, r1, p1⟩ => ?_
  refine tG.mono (Post.bind R1 p1) fun y H2 ⟨G2, ρ2, a2, g2, R2, r2, p2⟩ => ?_
  exact p2.here R2 (.cons (r1.mono g2) r2)
def kwX (F : Mo Sl) (perm : List Nat) (more : List D) (fa fk : Mo (List Ar)) : Mo Sl := Mo.bind fa fun as => Mo.bind fk fun bs => appF F [] (selL perm (as ++ bs ++ more.map .vl))
theorem run_fnNS {E : St → XK} {sp : Sp} {gV : List V → List V → List V} {pins : List (Addr × Obj)} {σ : St} {H : Hp} {s : Shared} {Q : VK} {us ws : List Value} {vs zs : List V} (Fk : FnOk X.prog X.w X.K X.mg X.base (L2.CX X.prog X.w) k f fd ps sp) (hr : Room k X.A) (hb : KBn X.K fd ps n ks g gV)
    (hx : PassesAt (L2.CX X.prog X.w) X σ (E σ)) (I : Inv X pins σ H s) (r : Vals vs us) (rz : Vals zs ws) (l1 : vs.length = n) (l2 : zs.length = ks.length) (h : sp (gV vs zs) H Q (E σ)) : wpAny (model X.prog X.w) X.A (call (.ref f) us (ks.zip ws)) (EP X pins σ Q) X.xe s := by
  have r2 := hb.rel r rz
  refine wpAny_call (codeAny_mono (Fk.run X.A X.stack s H ⟨us, ks.zip ws⟩ (g us ws) (gV vs zs) Q (E σ) hr I.env0 (hb.to s us ws I.kIn (r.length.symm.trans l1) (rz.length.symm.trans l2)) r2 h) fun r s' hq => ?_)
  cases r with
  | error e => exact hx pins H s e s' I hq
  | ok fl =>
    cases fl with
    | ret u => exact I.after hq
    | next => exact False.elim hq
    | brk => exact False.elim hq
    | cont => exact False.elim hq
def tCallNS (n m : Nat) (sp : Sp) (gV : List V → List V → List V) (E : St → XK) (t tk : TA) : TE := fun σ H Q => t σ H fun vs H1 => tk σ H1 fun zs H2 => vs.length = n ∧ zs.length = m ∧ sp (gV vs zs) H2 Q (E σ)
theorem kw_core {σ : St} {H : Hp} {Q : VK} {m mk : Nat} (hd : ∀ G, DRs e G dvs more) (hn : LenA fa n) (hk : LenA fk mk) (hp : ∀ i ∈ perm, i < n + mk + more.length) (hl : perm.length = m) (h : tX e W (kwX F perm more fa fk) σ H Q) :
    tCallNS n mk (spD e m F) (fun vs zs => selL perm (vs ++ zs ++ dvs)) (WE W) (tA e W fa) (tA e W fk) σ H Q := by
  obtain ⟨Fo, G0, ρ, R, p⟩ := h
  refine ⟨Fo, G0, ρ, R, ?_⟩
  unfold kwX Mo.bind at p
  cases q : fa ρ with
  | ok ρ1 as =>
    rw [q] at p
    intro G1 H1 vs g1 k1 R1 r1
    have p1 := p.from g1 k1
    refine ⟨Fo, G1, ρ1, R1, ?_⟩
    unfold Mo.bind at p1
    cases q2 : fk ρ1 with
    | ok ρ2 bs =>
      simp only [q2] at p1
      intro G2 H2 zs g2 k2 R2 r2
      have p2 := p1.from g2 k2
      have n1 := hn _ _ _ q
      have n2 := hk _ _ _ q2
      have ra : ArRs e G1 σ vs as := r1
      have rb : ArRs e G2 σ zs bs := r2
      have rr := ars_sel (((ra.mono g2).append rb).append (ArRs.of_drs (hd G2))) perm
      have := app_core (more := []) (ws := []) (m := m) R2 rr .nil (by
        rw [selL_length (by
          intro i hi
          have := hp i hi
          simp only [List.length_append, List.length_map, n1, n2]
          exact this), hl]
        rfl) p2
      rw [List.append_nil] at this
      exact ⟨ra.length.trans n1, rb.length.trans n2, this⟩
    | exc ρ2 c fs =>
      simp only [q2] at p1
      exact p1
    | bad =>
      simp only [q2] at p1
      exact p1
  | exc ρ1 c fs => rw [q] at p; exact p
  | bad => rw [q] at p; exact p
theorem xx_callK {m : Nat} (C : EC X e W) (Fk : FnOk X.prog X.w X.K X.mg X.base (L2.CX X.prog X.w) k f fd ps (spD e m F)) (hr : Room k X.A) (hg : Gl X x) (hm : X.mg x = some (.ref f)) (hk : PySem.W.keepIn X.K (.ref f) = true)
    (hb : KBn X.K fd ps n ks g (fun vs zs => selL perm (vs ++ zs ++ dvs))) (hdd : ∀ G, DRs e G dvs more) (ha : PA X (a :: es) (tA e W fa)) (hkw : PK X kws (tA e W fk)) (hn : LenA fa n) (hkn : LenA fk ks.length) (hp : ∀ i ∈ perm, i < n + ks.length + more.length) (hl : perm.length = m)
    (hall : (backToKw pos (keywordEach kws X.env)).all (·.1.isSome) = true := by rfl) (hks : (backToKw pos (keywordEach kws X.env)).filterMap (·.1) = ks := by rfl)
    (hdb : (x == ("__debug__" : Str)) = false := by decide) (he : starEach (a :: es) X.env = (false, eval a X.env) :: starEach es X.env := by rfl)
    (hpl : ((backTo pos (starEach (a :: es) X.env)).any (·.1) || (backToKw pos (keywordEach kws X.env)).any (·.1.isNone)) = false := by rfl) :
    PE X (.Call (.Name x p) (a :: es) kws pos) (tX e W (kwX F perm more fa fk)) := by
  refine PE.imp (t := tCallNS n ks.length (spD e m F) (fun vs zs => selL perm (vs ++ zs ++ dvs)) (WE W) (tA e W fa) (tA e W fk)) ⟨fun pins s σ H Q I h => ?_⟩ fun _ _ _ h => kw_core hdd hn hkn hp hl h
  refine wpAny_Call_Name_kw (ld_glob I hg hm ?_ hdb)
  refine PySem.W.callWith_KW (h₀ := X.base) I.ok.mod.kin hk hall (thn (ha.run pos pins s σ H _ I h) fun us s1 ⟨vs, H1, I1, r, q⟩ => ?_) hpl he
  refine thn (hkw.run pos pins s1 σ H1 _ I1 q) fun ws s2 ⟨zs, H2, I2, rz, l1, l2, q2⟩ => ⟨I2.kIn, ?_⟩
  rw [hks]
  exact run_fnNS (E := WE W) Fk hr hb (passAt C.tk σ) I2 r rz l1 l2 q2
theorem xx_callK0 {m : Nat} (C : EC X e W) (Fk : FnOk X.prog X.w X.K X.mg X.base (L2.CX X.prog X.w) k f fd ps (spD e m F)) (hr : Room k X.A) (hg : Gl X x) (hm : X.mg x = some (.ref f)) (hk : PySem.W.keepIn X.K (.ref f) = true)
    (hb : KBn X.K fd ps 0 ks g (fun vs zs => selL perm (vs ++ zs ++ dvs))) (hdd : ∀ G, DRs e G dvs more) (hkw : PK X kws (tA e W fk)) (hkn : LenA fk ks.length) (hp : ∀ i ∈ perm, i < 0 + ks.length + more.length) (hl : perm.length = m)
    (hall : (backToKw pos (keywordEach kws X.env)).all (·.1.isSome) = true := by rfl) (hks : (backToKw pos (keywordEach kws X.env)).filterMap (·.1) = ks := by rfl)
    (hdb : (x == ("__debug__" : Str)) = false := by decide)
    (hpl : ((backTo pos (starEach [] X.env)).any (·.1) || (backToKw pos (keywordEach kws X.env)).any (·.1.isNone)) = false := by rfl) :
    PE X (.Call (.Name x p) [] kws pos) (tX e W (kwX F perm more nilA fk)) := by
  refine PE.imp (t := tCallNS 0 ks.length (spD e m F) (fun vs zs => selL perm (vs ++ zs ++ dvs)) (WE W) (tA e W nilA) (tA e W fk)) ⟨fun pins s σ H Q I h => ?_⟩ fun _ _ _ h => kw_core hdd lenA_nil hkn hp hl h
  have h' : tA e W fk σ H fun zs H2 => zs.length = ks.length ∧ spD e m F (selL perm (zs ++ dvs)) H2 Q (WE W σ) := by
    obtain ⟨Fo, G, ρ, R, p⟩ := h
    exact tG.mono (p G H [] (L2.Same.refl _) (Keep.refl _) R .nil) fun zs H2 ⟨_, h2, h3⟩ => ⟨h2, h3⟩
  refine wpAny_Call_Name_kw (ld_glob I hg hm ?_ hdb)
  refine PySem.W.callWith_KW0 (h₀ := X.base) I.ok.mod.kin hk hall (thn (hkw.run pos pins s σ H _ I h') fun ws s2 ⟨zs, H2, I2, rz, l2, q2⟩ => ⟨I2.kIn, ?_⟩) hpl
  rw [hks]
  exact run_fnNS (E := WE W) (vs := []) (us := []) Fk hr hb (passAt C.tk σ) I2 .nil rz rfl l2 q2
end
end L2.WD
/-! The data layer, part 15: facts of the written part as truths that are computed. -/
namespace L2.WD
open PySem PySem.Spec PySem.Calls PyProof.Rows

def tlV : List Value := [.type "ValueError", .type "Exception", .type "BaseException", .type "object"]
def tlL : List Value := [.type "LookupError", .type "Exception", .type "BaseException", .type "object"]
def tlA : List Value := [.type "ArithmeticError", .type "Exception", .type "BaseException", .type "object"]
theorem famV : Fam "ValueError" "ValueError.__new__" "ValueError.__init__" tlV := fam_V
theorem famL : Fam "LookupError" "LookupError.__new__" "LookupError.__init__" tlL := fam_L
theorem famA : Fam "ArithmeticError" "ArithmeticError.__new__" "ArithmeticError.__init__" tlA := fam_A
section
variable {K : PySem.W.Frag} {C : Addr}
def excB (K : PySem.W.Frag) (C : Addr) : Bool := decide (PySem.W.findIn K (.ref C) "__getattribute__" = some (some (.builtin "BaseException.__getattribute__"))) && (decide (PySem.W.findIn K (.ref C) "__getattr__" = some none) && (decide (PySem.W.subIn K (.ref C) (.type "BaseException") = some true) &&
  (PySem.W.hasDictIn K C && (decide (PySem.W.findIn K (.ref C) "__class__" = some (some (.builtin "object.__class__"))) && (decide (PySem.W.specialIn K (.builtin "object.__class__") "__get__" = some (some (.builtin "getset_descriptor.__get__"))) &&
  (decide (PySem.W.takesIn K (.builtin "object.__class__") = some true) && decide (PySem.W.mroIn K C (.type "object") = some true)))))))
theorem excB_ok (h : excB K C = true) : ExcC K C := by
  obtain ⟨h1, h⟩ := He.ba h
  obtain ⟨h2, h⟩ := He.ba h
  obtain ⟨h3, h⟩ := He.ba h
  obtain ⟨h4, h⟩ := He.ba h
  obtain ⟨h5, h⟩ := He.ba h
  obtain ⟨h6, h⟩ := He.ba h
  obtain ⟨h7, h8⟩ := He.ba h
  exact ⟨of_decide_eq_true h1, of_decide_eq_true h2, of_decide_eq_true h3, h4, of_decide_eq_true h5, of_decide_eq_true h6, of_decide_eq_true h7, of_decide_eq_true h8⟩
def insB (K : PySem.W.Frag) (C : Addr) : Bool := PySem.W.plainGet K C Str.empty && (PySem.W.hasDictIn K C && (PySem.W.plainOver K C && (decide (PySem.W.findIn K (.ref C) "__setattr__" = some (some (.builtin "object.__setattr__"))) &&
  (decide (PySem.W.findIn K (.ref C) "__class__" = some (some (.builtin "object.__class__"))) && (decide (PySem.W.specialIn K (.builtin "object.__class__") "__get__" = some (some (.builtin "getset_descriptor.__get__"))) &&
  (decide (PySem.W.takesIn K (.builtin "object.__class__") = some true) && decide (PySem.W.mroIn K C (.type "object") = some true)))))))
theorem insB_ok (h : insB K C = true) : InsC K C := by
  obtain ⟨h1, h⟩ := He.ba h
  obtain ⟨h2, h⟩ := He.ba h
  obtain ⟨h3, h⟩ := He.ba h
  obtain ⟨h4, h⟩ := He.ba h
  obtain ⟨h5, h⟩ := He.ba h
  obtain ⟨h6, h⟩ := He.ba h
  obtain ⟨h7, h8⟩ := He.ba h
  exact ⟨⟨h1, h2, h3, of_decide_eq_true h4⟩, of_decide_eq_true h5, of_decide_eq_true h6, of_decide_eq_true h7, of_decide_eq_true h8⟩
def oexB (K : PySem.W.Frag) (tl : List Value) (newId : String) (C : Addr) : Bool := (match K.lookup C with
  | some ⟨.type "type", _, .cls cd, sl⟩ => (match cd.mro, sl.toList with
    | .ref C' :: bm, [_, _, _, _, some (.builtin n), _] => C' == C && (n == newId && (!cd.hasDel && (cd.hasDict && refsT tl bm)))
    | _, _ => false)
  | _ => false) && (decide (PySem.W.findIn K (.ref C) "__setattr__" = some (some (.builtin "object.__setattr__"))) && (decide (PySem.W.subIn K (.ref C) (.type "BaseException") = some true) && (decide (PySem.W.typeIn K (.ref C) = some (.type "type")) && PySem.W.keepIn K (.ref C))))
theorem oexB_ok {tl : List Value} {newId : String} (h : oexB K tl newId C = true) : OexG K tl newId C := by
  obtain ⟨q, h⟩ := He.ba h
  obtain ⟨h1, h⟩ := He.ba h
  obtain ⟨h2, h⟩ := He.ba h
  obtain ⟨h3, h4⟩ := He.ba h
  refine ⟨?_, of_decide_eq_true h1, of_decide_eq_true h2, of_decide_eq_true h3, h4⟩
  split at q
  · rename_i dd cd sl ho
    split at q
    · rename_i C' bm k0 k1 k2 k3 n k5 hm hs
      obtain ⟨q1, q⟩ := He.ba q
      obtain ⟨q2, q⟩ := He.ba q
      obtain ⟨q3, q⟩ := He.ba q
      obtain ⟨q4, q5⟩ := He.ba q
      have e1 := beq_iff_eq.mp q1
      have e2 := beq_iff_eq.mp q2
      obtain ⟨nm, bs, mro, ns, qn, hd, sn, sub, ab, col, del⟩ := cd
      dsimp only at hm q3 q4 q5
      subst hm e1 e2 q4
      have hdel : del = false := by cases del <;> first | rfl | cases q3
      subst hdel
      have hsl : sl = #[k0, k1, k2, k3, some (.builtin n), k5] := by
        obtain ⟨l⟩ := sl
        simp only at hs
        rw [hs]
      subst hsl
      exact ⟨nm, qn, ns, bs, bm, sn, sub, ab, col, dd, k0, k1, k2, k3, k5, ho, q5⟩
    · cases q
  · cases q
def baseB (K : PySem.W.Frag) (C : Addr) (initId : String) : Bool := PySem.W.readsIn K C (.type "type") && (decide (PySem.W.specialIn K (.ref C) "__getattribute__" = some (some (.builtin "type.__getattribute__"))) && (match PySem.W.findCls K (.ref C) (.type "type") "__init__" with
  | some (.val v) => decide (v = .builtin initId)
  | _ => false))
theorem baseB_ok {initId : String} (h : baseB K C initId = true) : BaseC K C initId := by
  obtain ⟨h1, h⟩ := He.ba h
  obtain ⟨h2, h3⟩ := He.ba h
  refine ⟨h1, of_decide_eq_true h2, ?_⟩
  split at h3
  · rename_i v q
    rw [q, of_decide_eq_true h3]
  · cases h3
/-- an exception class without an own __init__ -/
def exc0B (K : PySem.W.Frag) (tl : List Value) (newId : String) (C : Addr) : Bool := PySem.W.excIn K C tl newId && (PySem.W.keepIn K (.ref C) && (decide (PySem.W.subIn K (.ref C) (.type "BaseException") = some true) && decide (PySem.W.typeIn K (.ref C) = some (.type "type"))))
/-- .. its __init__ -/
def iniB (K : PySem.W.Frag) (C f : Addr) : Bool := decide (PySem.W.findIn K (.ref C) "__init__" = some (some (.ref f))) && decide (PySem.W.typeIn K (.ref f) = some (.type "function"))
def noB (K : PySem.W.Frag) (C : Addr) (f : Str) : Bool := decide (PySem.W.findIn K (.ref C) f = some none)
end
/-- which kinds a kind is of; ks: those that are known -/
def ancT (ks : List Nat) (anc : List (List Nat)) (a b : Nat) : Option Bool := if ks.contains a && ks.contains b then some ((anc.getD a []).contains b) else none
def isiB (e : Ev) (ks : List Nat) (anc : List (List Nat)) : Bool := ks.all fun a => ks.all fun b => decide (PySem.W.kitOne e.K (kdV e a) (kdV e b) = some ((anc.getD a []).contains b))
theorem isiB_ok {e : Ev} {ks : List Nat} {anc : List (List Nat)} (h : isiB e ks anc = true) (a b : Nat) (r : Bool) (q : ancT ks anc a b = some r) : PySem.W.kitOne e.K (kdV e a) (kdV e b) = some r := by
  unfold ancT at q
  split at q
  · rename_i c
    obtain ⟨c1, c2⟩ := He.ba c
    cases q
    exact of_decide_eq_true (List.all_eq_true.mp (List.all_eq_true.mp h a (by simpa using c1)) b (by simpa using c2))
  · cases q
/-- which classes a handler for the class k catches; xs: the exceptions -/
def catT (xs : List Nat) (anc : List (List Nat)) (k : Nat) (c : Nat) : Option Bool := if xs.contains c then some ((anc.getD (10 + c) []).contains k) else none
def exmB (e : Ev) (xs hs : List Nat) (anc : List (List Nat)) : Bool := hs.all fun k => xs.all fun c => decide (PySem.W.exmOne e.K (.ref (e.ca c)) (kdV e k) = some ((anc.getD (10 + c) []).contains k))
theorem exmB_ok {e : Ev} {xs hs : List Nat} {anc : List (List Nat)} (h : exmB e xs hs anc = true) {k : Nat} (hk : k ∈ hs) (c : Nat) (b : Bool) (q : catT xs anc k c = some b) : PySem.W.exmOne e.K (.ref (e.ca c)) (kdV e k) = some b := by
  unfold catT at q
  split at q
  · rename_i c1
    cases q
    exact of_decide_eq_true (List.all_eq_true.mp (List.all_eq_true.mp h k hk) c (by simpa using c1))
  · cases q
/-! ### names and slots of a context -/
structure CF (X : Cx) (N : List Str) (sc : Scope) : Prop where
  n : X.N = N
  s : X.env.scope = sc
section
variable {X : Cx} {N : List Str} {sc : Scope} {x : Str} {pos : Pos} {i : Nat}
theorem pv (F : CF X N sc) (i : Nat) (h : N[i]? = some x) (v : Vis sc x) (hd : (x == ("__debug__" : Str)) = false := by decide) (hcd : (x == ("__classdict__" : Str)) = false := by decide) : PE X (.Name x pos) (tVar i) :=
  pe_var (by rw [F.n]; exact h) (by rw [F.s]; exact v) hd hcd
theorem CF.gl (F : CF X N sc) (h : sc.names.lookup x = some .globalImplicit) : Gl X x := by
  show X.env.kindOf x = _
  show X.env.scope.names.lookup x = _
  rw [F.s]
  exact h
theorem CF.ix (F : CF X N sc) (h : N[i]? = some x) : X.N[i]? = some x := by rw [F.n]; exact h
theorem CF.lo (F : CF X N sc) (h : Loc sc x) : Loc X.env.scope x := by rw [F.s]; exact h
theorem CF.ll (F : CF X N sc) (h : sc.names.lookup x = some .local) : X.env.scope.names.lookup x = some .local := by rw [F.s]; exact h
end
end L2.WD
/-! The data layer, part 16: what a law's own text leans on. -/
namespace L2.WD
open PySem PySem.Spec PySem.Calls PyProof.Rows

/-- classes by their places in a list of names -/
@[reducible] def evOf (cn : List Str) (K : PySem.W.Frag) (mg : Str → Option Value) : Ev := ⟨K, mg, fun c => He.ga K (cn.getD c ""), fun _ => 0⟩
/-- a def that keeps its promise -/
structure Ok (P : Program) (w : World) (e : Ev) (base : Heap) (d : He.DefD) (k : Nat) (ps : List Str) (F : Mo Sl) (fd : FuncData) : Prop where
  fn : FnOk P w e.K e.mg base (L2.CX P w) k (He.fAd e.K d.at_) fd ps (spD e ps.length F)
  fd : FunD e.K d.name d.qual d.params d.body d.scope (d.dvs e.K) (d.kws e.K) (He.fAd e.K d.at_) fd
/-- an exception's __init__ -/
structure OkX (P : Program) (w : World) (e : Ev) (base : Heap) (d : He.DefD) (k : Nat) (C : Addr) (f px : Str) (fd : FuncData) : Prop where
  fn : FnOk P w e.K e.mg base (L2.CX P w) k (He.fAd e.K d.at_) fd ["self", px] (spXI C f)
  b : Binds e.K fd ["self", px] []
theorem callLen {f : Mo (List Ar)} {n k m : Nat} (h : LenA f n) (e : n + k = m) : ∀ ρ ρ' as, f ρ = .ok ρ' as → as.length + k = m := fun ρ ρ' as q => by rw [h ρ ρ' as q, e]
theorem roomU {k : Nat} {A : Around} (r : Room k A) : A.units + 64 < cLine := by
  have := r.un
  omega
theorem blkC_ok {N : List Str} {sc scope : Scope} {own : List (Str × Nat)} (h : blkC N sc scope own = true) : BlkOk N sc scope own := by
  unfold blkC at h
  obtain ⟨h, h4⟩ := He.ba h
  obtain ⟨h, h3⟩ := He.ba h
  obtain ⟨h1, h2⟩ := He.ba h
  refine ⟨?_, fun y hy => of_decide_eq_true (List.all_eq_true.mp h2 y hy), fun p hp => of_decide_eq_true (List.all_eq_true.mp h3 p hp), fun y hy hk => ?_, fun y hy hk => ?_⟩
  · split at h1
    · assumption
    · cases h1
  · have := List.all_eq_true.mp h4 y hy
    rw [hk] at this
    simp only at this
    split at this
    · exact .inl (by assumption)
    · exact .inr (by assumption)
    · cases this
  · have := List.all_eq_true.mp h4 y hy
    rcases hk with hk | hk
    · rw [hk] at this
      simp only [Bool.or_eq_true, decide_eq_true_eq] at this
      exact this
    · rw [hk] at this
      simp only [Bool.or_eq_true, decide_eq_true_eq] at this
      exact this
section
variable {X : Cx} {N : List Str} {sc : Scope}
theorem CF.blk (F : CF X N sc) {scope : Scope} {own : List (Str × Nat)} (h : blkC N sc scope own = true) : BlkOk X.N X.env.scope scope own := by
  rw [F.n, F.s]
  exact blkC_ok h
theorem CF.sub (F : CF X N sc) (s : Shared) (H : Hp) (scope : Scope) (cl : List (Str × Addr)) (Cc : Addr) (fp : List Addr) : CF (X.blk s H scope (compEnvC scope cl Cc X.env) fp) N (relS scope sc) := ⟨F.n, by rw [← F.s]; rfl⟩
/-- y = [..], y a local, on one line -/
theorem sw_yes (F : CF X N sc) (hb : X.env.blockKind = .function) {y : Str} {py : Pos} {elt : Expr} {gs : List Comprehension} {scope : Scope} {pos : Pos} {l : Nat} (h : sc.names.lookup y = some .local) (hl : (py.line == pos.line) = true) (hs : (scope.names.any fun q => q.1 == y && (q.2 == .local || q.2 == .cell)) = false) :
    swapsWith (.ListComp elt gs scope pos) (some (.Name y py)) l X.env = pure true := by
  have hk : X.env.kindOf y = some .local := by
    show X.env.scope.names.lookup y = _
    rw [F.s]
    exact h
  show (pure (X.env.blockKind == .function && X.env.kindOf y == some .local && (py.line == pos.line) && !(scope.names.any fun q => q.1 == y && (q.2 == .local || q.2 == .cell))) : Sem Bool) = _
  rw [hb, hk, hl, hs]
  rfl
theorem sw_cell (F : CF X N sc) {y : Str} {py : Pos} {elt : Expr} {gs : List Comprehension} {scope : Scope} {pos : Pos} {l : Nat} (h : sc.names.lookup y = some .cell) : swapsWith (.ListComp elt gs scope pos) (some (.Name y py)) l X.env = pure false := by
  have hk : X.env.kindOf y = some .cell := by
    show X.env.scope.names.lookup y = _
    rw [F.s]
    exact h
  show (pure (X.env.blockKind == .function && X.env.kindOf y == some .local && (py.line == pos.line) && !(scope.names.any fun q => q.1 == y && (q.2 == .local || q.2 == .cell))) : Sem Bool) = _
  rw [hk, show ((some NameKind.cell : Option NameKind) == some .local) = false from rfl]
  simp
theorem sw_line {y : Str} {py : Pos} {elt : Expr} {gs : List Comprehension} {scope : Scope} {pos : Pos} {l : Nat} (hl : (py.line == pos.line) = false) : swapsWith (.ListComp elt gs scope pos) (some (.Name y py)) l X.env = pure false := by
  show (pure (X.env.blockKind == .function && X.env.kindOf y == some .local && (py.line == pos.line) && !(scope.names.any fun q => q.1 == y && (q.2 == .local || q.2 == .cell))) : Sem Bool) = _
  rw [hl]
  simp
variable {e : Ev} {W : WX}
theorem ss_setC {i : Nat} {y : Str} {py : Pos} {elt tg iter : Expr} {ifs : List Expr} {scope : Scope} {own : List (Str × Nat)} {is : List Nat} {pos spos : Pos} {f : Mo (List D)} {t : D → So} {tt : Mo Bool} {el : Mo Sl} (C : EC X e W) (cm : X.calm = true) (F : CF X N sc) (hb : X.env.blockKind = .function)
    (hy : N[i]? = some y) (hyl : sc.names.lookup y = some .local) (hl : (py.line == pos.line) = true) (hn : (scope.names.any fun q => q.1 == y && (q.2 == .local || q.2 == .cell)) = false) (hi : PI X tg iter (tI e W f)) (ok : BlkOk X.N X.env.scope scope own) (his : ∀ j ∈ is, j ∈ own.map (·.2))
    (hg : ∀ (Y : Cx), EC Y e WF → Y.calm = true → (∃ (s : Shared) (H : Hp) (Cc : Addr) (cl : List (Str × Addr)) (fp : List Addr), Y = X.blk s H scope (compEnvC scope cl Cc X.env) fp) → PG Y tg (tgR e is t) ∧ PTs Y ifs (tT e WF tt) ∧ PE Y elt (tX e WF el))
    (hs : ∀ x, foldedSetIterable iter X.env x = pure x := by intro _; rfl) : PS X (.Assign [.Name y py] (.ListComp elt [⟨tg, iter, ifs, 0⟩] scope pos) spos) (tS e W (setS i (compX (own.map (·.2)) f t tt (frzD el)))) :=
  ss_asg (ps_setLc cm C.nd (F.ix hy) (F.ll hyl) (sw_yes F hb hyl hl hn) hi ok (fun s H Cc cl fp => (hg _ (C.blk s H scope _ fp) cm ⟨s, H, Cc, cl, fp, rfl⟩).1) (fun s H Cc cl fp => (hg _ (C.blk s H scope _ fp) cm ⟨s, H, Cc, cl, fp, rfl⟩).2.1) (fun s H Cc cl fp => xd_of (hg _ (C.blk s H scope _ fp) cm ⟨s, H, Cc, cl, fp, rfl⟩).2.2) hs)
    fun σ H Q h => comp_core (K := e.K) his h
/-- y = e, for a comprehension e that is stored plainly -/
theorem ss_setP {i : Nat} {y : Str} {ex : Expr} {f : Mo Sl} {pos pos' : Pos} (C : EC X e W) (F : CF X N sc) (hi : N[i]? = some y) (hx : Loc sc y) (he : PE X ex (tX e W f)) (hs : swapsWith ex (some (.Name y pos')) pos.line X.env = pure false) (hf : X.fn y = true ∨ X.env.scope.names.lookup y = some .local) :
    PS X (.Assign [.Name y pos'] ex pos) (tS e W (setS i f)) := ss_set C.nd (F.ix hi) (F.lo hx) he hs hf
/-- a module's number, text -/
theorem xo_gint {x : Str} {n : Int} {pos : Pos} (hg : Gl X x) (hm : ∃ t, X.mg x = some (.int n t)) (hd : (x == ("__debug__" : Str)) = false := by decide) : PE X (.Name x pos) (tO e W (cO (.int n))) := by
  obtain ⟨t, h⟩ := hm
  exact xo_con (pe_glob (v := .int n) hg h ⟨t, rfl⟩ hd) fun _ => .int n
theorem xo_gstr {x : Str} {z : Str} {pos : Pos} (hg : Gl X x) (hm : ∃ t, X.mg x = some (.str z t)) (hd : (x == ("__debug__" : Str)) = false := by decide) : PE X (.Name x pos) (tO e W (cO (.str z))) := by
  obtain ⟨t, h⟩ := hm
  exact xo_con (pe_glob (v := .str z) hg h ⟨t, rfl⟩ hd) fun _ => .str z
theorem xo_gref {x : Str} {a : Addr} {d : D} {pos : Pos} (hg : Gl X x) (hm : X.mg x = some (.ref a)) (r : ∀ G, DR e G (.ref a) d) (hd : (x == ("__debug__" : Str)) = false := by decide) : PE X (.Name x pos) (tO e W (cO d)) :=
  xo_con (pe_glob (v := .ref a) hg hm rfl hd) r
theorem xo_gty {x : Str} {n : String} {pos : Pos} (hg : Gl X x) (hm : X.mg x = none) (hv : bootBuiltins x = some (.type n)) (hn : x ≠ "__name__" := by decide) (hd : (x == ("__debug__" : Str)) = false := by decide) : PE X (.Name x pos) (tO e W (cO (.ty n))) :=
  xo_con (pe_bltn (v := .ty n) hg hm hv rfl hn hd) fun _ => .ty n
end
end L2.WD
/-! The data layer, part 17: short forms for a text that a program prints. -/
namespace L2.WD
open PySem PySem.Spec PySem.Calls PyProof.Rows
def visB (sc : Scope) (x : Str) : Bool := match sc.names.lookup x with
  | some .local => true
  | some .cell => true
  | some .free => true
  | _ => false
def locB (sc : Scope) (x : Str) : Bool := match sc.names.lookup x with
  | some .local => true
  | some .cell => true
  | _ => false
def glB (sc : Scope) (x : Str) : Bool := (match sc.names.lookup x with
  | some .globalImplicit => true
  | _ => false) && !(x == ("__debug__" : Str))
def atB (N : List Str) (i : Nat) (x : Str) : Bool := decide (N[i]? = some x)
def nmB (N : List Str) (sc : Scope) (i : Nat) (x : Str) : Bool := atB N i x && (visB sc x && (!(x == ("__debug__" : Str)) && !(x == ("__classdict__" : Str))))
def stB (N : List Str) (sc : Scope) (i : Nat) (x : Str) : Bool := atB N i x && locB sc x
theorem visB_ok {sc : Scope} {x : Str} (h : visB sc x = true) : Vis sc x := by
  unfold visB at h
  split at h
  · exact .inl (by assumption)
  · exact .inr (.inl (by assumption))
  · exact .inr (.inr (by assumption))
  · cases h
theorem locB_ok {sc : Scope} {x : Str} (h : locB sc x = true) : Loc sc x := by
  unfold locB at h
  split at h
  · exact .inl (by assumption)
  · exact .inr (by assumption)
  · cases h
theorem glB_ok {sc : Scope} {x : Str} (h : glB sc x = true) : sc.names.lookup x = some .globalImplicit ∧ (x == ("__debug__" : Str)) = false := by
  unfold glB at h
  obtain ⟨h1, h2⟩ := He.ba h
  refine ⟨?_, by simpa using h2⟩
  split at h1
  · assumption
  · cases h1
section
variable {X : Cx} {N : List Str} {sc : Scope} {x : Str} {pos : Pos} {i : Nat} {e : Ev} {W : WX}
theorem pn (F : CF X N sc) (i : Nat) (h : nmB N sc i x = true) : PE X (.Name x pos) (tVar i) := by
  obtain ⟨h1, h2⟩ := He.ba h
  obtain ⟨h3, h4⟩ := He.ba h2
  obtain ⟨h5, h6⟩ := He.ba h4
  exact pv F i (of_decide_eq_true h1) (visB_ok h3) (by simpa using h5) (by simpa using h6)
theorem CF.g (F : CF X N sc) (h : glB sc x = true) : Gl X x := F.gl (glB_ok h).1
theorem dbg (h : glB sc x = true) : (x == ("__debug__" : Str)) = false := (glB_ok h).2
theorem EC.gm {v : Option Value} (C : EC X e W) (h : e.mg x = v) : X.mg x = v := by rw [C.mg]; exact h
/-- where a context stands -/
structure At (X : Cx) (P : Program) (w : World) (base : Heap) : Prop where
  p : X.prog = P
  w : X.w = w
  b : X.base = base
theorem Ok.at {P : Program} {w : World} {base : Heap} {d : He.DefD} {k : Nat} {ps : List Str} {Fn : Mo Sl} {fd : FuncData} (O : Ok P w e base d k ps Fn fd) (C : EC X e W) (T : At X P w base) :
    FnOk X.prog X.w X.K X.mg X.base (L2.CX X.prog X.w) k (He.fAd e.K d.at_) fd ps (spD e ps.length Fn) := by
  rw [T.p, T.w, T.b, C.K, C.mg]
  exact O.fn
theorem OkX.at {P : Program} {w : World} {base : Heap} {d : He.DefD} {k : Nat} {c : Addr} {f px : Str} {fd : FuncData} (O : OkX P w e base d k c f px fd) (C : EC X e W) (T : At X P w base) :
    FnOk X.prog X.w X.K X.mg X.base (L2.CX X.prog X.w) k (He.fAd e.K d.at_) fd ["self", px] (spXI c f) := by
  rw [T.p, T.w, T.b, C.K, C.mg]
  exact O.fn
theorem CF.subY {Y : Cx} {scope : Scope} (F : CF X N sc) (hY : ∃ (s : Shared) (H : Hp) (Cc : Addr) (cl : List (Str × Addr)) (fp : List Addr), Y = X.blk s H scope (compEnvC scope cl Cc X.env) fp) : CF Y N (relS scope sc) := by
  obtain ⟨s, H, Cc, cl, fp, rfl⟩ := hY
  exact F.sub s H scope cl Cc fp
theorem At.subY {Y : Cx} {scope : Scope} {P : Program} {w : World} {base : Heap} (T : At X P w base) (hY : ∃ (s : Shared) (H : Hp) (Cc : Addr) (cl : List (Str × Addr)) (fp : List Addr), Y = X.blk s H scope (compEnvC scope cl Cc X.env) fp) : At Y P w base := by
  obtain ⟨s, H, Cc, cl, fp, rfl⟩ := hY
  exact ⟨T.p, T.w, T.b⟩
theorem roomY {Y : Cx} {scope : Scope} {k : Nat} (r : Room k X.A) (hY : ∃ (s : Shared) (H : Hp) (Cc : Addr) (cl : List (Str × Addr)) (fp : List Addr), Y = X.blk s H scope (compEnvC scope cl Cc X.env) fp) : Room k Y.A := by
  obtain ⟨s, H, Cc, cl, fp, rfl⟩ := hY
  exact r
theorem CF.tr (F : CF X N sc) (pn1 : List (Addr × Obj)) (xe1 : Value → Shared → Prop) : CF (X.tr pn1 xe1) N sc := ⟨F.n, F.s⟩
theorem CF.suite (F : CF X N sc) (a : Addr) (pn1 : List (Addr × Obj)) : CF (X.suite a pn1) N sc := ⟨F.n, F.s⟩
theorem At.tr {P : Program} {w : World} {base : Heap} (T : At X P w base) (pn1 : List (Addr × Obj)) (xe1 : Value → Shared → Prop) : At (X.tr pn1 xe1) P w base := ⟨T.p, T.w, T.b⟩
theorem room_tr {k : Nat} (r : Room k X.A) (pn1 : List (Addr × Obj)) (xe1 : Value → Shared → Prop) : Room k (X.tr pn1 xe1).A := r
theorem calm_tr (c : X.calm = true) (pn1 : List (Addr × Obj)) (xe1 : Value → Shared → Prop) : (X.tr pn1 xe1).calm = true := c
theorem hf_tr (c : ∀ x, X.fn x = true) (pn1 : List (Addr × Obj)) (xe1 : Value → Shared → Prop) : ∀ x, (X.tr pn1 xe1).fn x = true := c
theorem hf_su (c : ∀ x, X.fn x = true) (a : Addr) (pn1 : List (Addr × Obj)) : ∀ x, (X.suite a pn1).fn x = true := c
/-- a def that is called by name -/
theorem xc {P : Program} {w : World} {base : Heap} {d : He.DefD} {k k0 : Nat} {ps : List Str} {Fn : Mo Sl} {fd : FuncData} {a : Expr} {es : List Expr} {p : Pos} {dvs : List V} {more : List D} {f : Mo (List Ar)} {n : Nat}
    (C : EC X e W) (T : At X P w base) (r : Room k0 X.A) (F : CF X N sc) (O : Ok P w e base d k ps Fn fd) (b : ∃ ds, Vals dvs ds ∧ Binds e.K fd ps ds) (hm : e.mg x = some (.ref (He.fAd e.K d.at_))) (hk : k ≤ k0) (hg : glB sc x = true) (hdd : ∀ G, DRs e G dvs more)
    (ha : PA X (a :: es) (tA e W f)) (hn : LenA f n) (hl : n + more.length = ps.length) (he : starEach (a :: es) X.env = (false, eval a X.env) :: starEach es X.env := by rfl) (hpl : (backTo pos (starEach es X.env)).any (·.1) = false := by rfl) :
    PE X (.Call (.Name x p) (a :: es) [] pos) (tX e W (callX Fn more f)) := by
  obtain ⟨ds, hv, hb⟩ := b
  exact xx_call (m := ps.length) C (O.at C T) (r.mono hk) (F.g hg) (C.gm hm) (by rw [C.K]; exact O.fd.kp) (by rw [C.K]; exact hb) hv hdd ha (callLen hn hl) (dbg hg) he hpl
/-- an instance is made by name -/
theorem xm {P : Program} {w : World} {base : Heap} {d : He.DefD} {k k0 c : Nat} {ps : List Str} {Fn : Mo Sl} {fd : FuncData} {a : Expr} {es : List Expr} {p : Pos} {dvs : List V} {more : List D} {f : Mo (List Ar)} {n : Nat}
    (C : EC X e W) (T : At X P w base) (r : Room k0 X.A) (F : CF X N sc) (O : Ok P w e base d k ps Fn fd) (b : ∃ ds, Vals dvs ds ∧ Binds e.K fd ps ds) (M : Mk e.K (e.ca c) (He.fAd e.K d.at_)) (hm : e.mg x = some (.ref (e.ca c))) (hk : k + 1 ≤ k0) (hg : glB sc x = true) (hdd : ∀ G, DRs e G dvs more)
    (ha : PA X (a :: es) (tA e W f)) (hn : LenA f n) (hl : n + more.length + 1 = ps.length) (he : starEach (a :: es) X.env = (false, eval a X.env) :: starEach es X.env := by rfl) (hpl : (backTo pos (starEach es X.env)).any (·.1) = false := by rfl) :
    PE X (.Call (.Name x p) (a :: es) [] pos) (tX e W (mkX c Fn more f)) := by
  obtain ⟨ds, hv, hb⟩ := b
  have Fk := O.at C T
  rw [← hl] at Fk
  exact xx_make (n := n) C M Fk (r.mono hk) (F.g hg) (C.gm hm) (by rw [C.K]; exact hb) hv hdd ha hn (dbg hg) he hpl
/-- a method -/
theorem xme {P : Program} {w : World} {base : Heap} {d : He.DefD} {k k0 c : Nat} {ps : List Str} {Fn : Mo Sl} {fd : FuncData} {o a : Expr} {es : List Expr} {apos : Pos} {dvs : List V} {more : List D} {fo : Mo Ar} {f : Mo (List Ar)} {n : Nat} {m : Str} {pl : Sem Bool}
    (C : EC X e W) (T : At X P w base) (r : Room k0 X.A) (O : Ok P w e base d k ps Fn fd) (b : ∃ ds, Vals dvs ds ∧ Binds e.K fd ps ds) (hc : Cls e.K (e.ca c)) (hm : Meth e.K (e.ca c) m (He.fAd e.K d.at_)) (hk : k ≤ k0) (hdd : ∀ G, DRs e G dvs more)
    (ho : PE X o (tO e W fo)) (ha : PA X (a :: es) (tA e W f)) (hn : LenA f n) (hl : n + more.length + 1 = ps.length) (hst : starEach (a :: es) X.env = (false, eval a X.env) :: starEach es X.env := by rfl) (hpl : (backTo pos (starEach es X.env)).any (·.1) = false := by rfl)
    (ht : eval (.Call (.Attribute o m apos) (a :: es) [] pos) X.env = (do
      let ov ← eval o X.env
      standAt apos.atName
      let (f, first) ← holding [ov] (getMethod ov m pl)
      callWith pos f first (backTo pos (starEach (a :: es) X.env)) (backToKw pos (keywordEach [] X.env))) := by rfl) :
    PE X (.Call (.Attribute o m apos) (a :: es) [] pos) (tX e W (methX c m Fn more fo f)) := by
  obtain ⟨ds, hv, hb⟩ := b
  have Fk := O.at C T
  rw [← hl] at Fk
  exact xx_meth (pl := pl) (n := n) C hc hm Fk (r.mono hk) (by rw [C.K]; exact hb) hv hdd ho ha hn hst hpl ht
theorem xme0 {P : Program} {w : World} {base : Heap} {d : He.DefD} {k k0 c : Nat} {ps : List Str} {Fn : Mo Sl} {fd : FuncData} {o : Expr} {apos : Pos} {dvs : List V} {more : List D} {fo : Mo Ar} {m : Str} {pl : Sem Bool}
    (C : EC X e W) (T : At X P w base) (r : Room k0 X.A) (O : Ok P w e base d k ps Fn fd) (b : ∃ ds, Vals dvs ds ∧ Binds e.K fd ps ds) (hc : Cls e.K (e.ca c)) (hm : Meth e.K (e.ca c) m (He.fAd e.K d.at_)) (hk : k ≤ k0) (hdd : ∀ G, DRs e G dvs more)
    (ho : PE X o (tO e W fo)) (hl : 0 + more.length + 1 = ps.length)
    (ht : eval (.Call (.Attribute o m apos) [] [] pos) X.env = (do
      let ov ← eval o X.env
      standAt apos.atName
      let (f, first) ← holding [ov] (getMethod ov m pl)
      callWith pos f first (backTo pos (starEach [] X.env)) (backToKw pos (keywordEach [] X.env))) := by rfl) :
    PE X (.Call (.Attribute o m apos) [] [] pos) (tX e W (methX c m Fn more fo nilA)) := by
  obtain ⟨ds, hv, hb⟩ := b
  have Fk := O.at C T
  rw [← hl] at Fk
  exact xx_meth0 (pl := pl) C hc hm Fk (r.mono hk) (by rw [C.K]; exact hb) hv hdd ho ht
/-- a def called by keywords alone -/
theorem xk0 {P : Program} {w : World} {base : Heap} {d : He.DefD} {k k0 : Nat} {ps ks : List Str} {Fn : Mo Sl} {fd : FuncData} {kws : List Keyword} {p : Pos} {dvs : List V} {more : List D} {perm : List Nat} {fk : Mo (List Ar)}
    (C : EC X e W) (T : At X P w base) (r : Room k0 X.A) (F : CF X N sc) (O : Ok P w e base d k ps Fn fd) (b : ∃ g, KBn e.K fd ps 0 ks g (fun vs zs => selL perm (vs ++ zs ++ dvs))) (hm : e.mg x = some (.ref (He.fAd e.K d.at_))) (hk : k ≤ k0) (hg : glB sc x = true) (hdd : ∀ G, DRs e G dvs more)
    (hkw : PK X kws (tA e W fk)) (hkn : LenA fk ks.length) (hp : ∀ i ∈ perm, i < 0 + ks.length + more.length) (hl : perm.length = ps.length)
    (hall : (backToKw pos (keywordEach kws X.env)).all (·.1.isSome) = true := by rfl) (hks : (backToKw pos (keywordEach kws X.env)).filterMap (·.1) = ks := by rfl)
    (hpl : ((backTo pos (starEach [] X.env)).any (·.1) || (backToKw pos (keywordEach kws X.env)).any (·.1.isNone)) = false := by rfl) :
    PE X (.Call (.Name x p) [] kws pos) (tX e W (kwX Fn perm more nilA fk)) := by
  obtain ⟨g, hb⟩ := b
  exact xx_callK0 (m := ps.length) C (O.at C T) (r.mono hk) (F.g hg) (C.gm hm) (by rw [C.K]; exact O.fd.kp) (by rw [C.K]; exact hb) hdd hkw hkn hp hl hall hks (dbg hg) hpl
theorem xk1 {P : Program} {w : World} {base : Heap} {d : He.DefD} {k k0 n : Nat} {ps ks : List Str} {Fn : Mo Sl} {fd : FuncData} {a : Expr} {es : List Expr} {kws : List Keyword} {p : Pos} {dvs : List V} {more : List D} {perm : List Nat} {fa fk : Mo (List Ar)}
    (C : EC X e W) (T : At X P w base) (r : Room k0 X.A) (F : CF X N sc) (O : Ok P w e base d k ps Fn fd) (b : ∃ g, KBn e.K fd ps n ks g (fun vs zs => selL perm (vs ++ zs ++ dvs))) (hm : e.mg x = some (.ref (He.fAd e.K d.at_))) (hk : k ≤ k0) (hg : glB sc x = true) (hdd : ∀ G, DRs e G dvs more)
    (ha : PA X (a :: es) (tA e W fa)) (hkw : PK X kws (tA e W fk)) (hn : LenA fa n) (hkn : LenA fk ks.length) (hp : ∀ i ∈ perm, i < n + ks.length + more.length) (hl : perm.length = ps.length)
    (hall : (backToKw pos (keywordEach kws X.env)).all (·.1.isSome) = true := by rfl) (hks : (backToKw pos (keywordEach kws X.env)).filterMap (·.1) = ks := by rfl)
    (he : starEach (a :: es) X.env = (false, eval a X.env) :: starEach es X.env := by rfl)
    (hpl : ((backTo pos (starEach (a :: es) X.env)).any (·.1) || (backToKw pos (keywordEach kws X.env)).any (·.1.isNone)) = false := by rfl) :
    PE X (.Call (.Name x p) (a :: es) kws pos) (tX e W (kwX Fn perm more fa fk)) := by
  obtain ⟨g, hb⟩ := b
  exact xx_callK (m := ps.length) C (O.at C T) (r.mono hk) (F.g hg) (C.gm hm) (by rw [C.K]; exact O.fd.kp) (by rw [C.K]; exact hb) hdd ha hkw hn hkn hp hl hall hks (dbg hg) he hpl
/-- y = e in a def -/
theorem ssx {ex : Expr} {f : Mo Sl} {pos' : Pos} (C : EC X e W) (F : CF X N sc) (hf : ∀ x, X.fn x = true) (h : stB N sc i x = true) (he : PE X ex (tX e W f)) (hs : swapsWith ex (some (.Name x pos')) pos.line X.env = pure false := by rfl) : PS X (.Assign [.Name x pos'] ex pos) (tS e W (setS i f)) := by
  obtain ⟨h1, h2⟩ := He.ba h
  exact ss_set C.nd (F.ix (of_decide_eq_true h1)) (F.lo (locB_ok h2)) he hs (.inl (hf _))
theorem sgx (C : EC X e W) (F : CF X N sc) (hf : ∀ x, X.fn x = true) (i : Nat) (h : stB N sc i x = true) : PG X (.Name x pos) (tgR e [i] (gN i)) := by
  obtain ⟨h1, h2⟩ := He.ba h
  exact sg_name C.nd (F.ix (of_decide_eq_true h1)) (F.lo (locB_ok h2)) (.inl (hf _))
/-- a block's own name -/
theorem sgb (C : EC X e W) (F : CF X N sc) (i : Nat) (h : (atB N i x && decide (sc.names.lookup x = some .local)) = true) : PG X (.Name x pos) (tgR e [i] (gN i)) := by
  obtain ⟨h1, h2⟩ := He.ba h
  exact sg_name C.nd (F.ix (of_decide_eq_true h1)) (F.lo (.inl (of_decide_eq_true h2))) (.inr (F.ll (of_decide_eq_true h2)))
/-- y = [.. for ..] on one line, y a plain local -/
theorem ssc {y : Str} {py : Pos} {elt tg iter : Expr} {ifs : List Expr} {scope : Scope} {own : List (Str × Nat)} {is : List Nat} {pos spos : Pos} {f : Mo (List D)} {t : D → So} {tt : Mo Bool} {el : Mo Sl} (C : EC X e W) (cm : X.calm = true) (F : CF X N sc) (hb : X.env.blockKind = .function)
    (hc : (atB N i y && (decide (sc.names.lookup y = some .local) && ((py.line == pos.line) && !(scope.names.any fun q => q.1 == y && (q.2 == .local || q.2 == .cell))))) = true) (hi : PI X tg iter (tI e W f)) (ok : BlkOk X.N X.env.scope scope own) (his : ∀ j ∈ is, j ∈ own.map (·.2))
    (hg : ∀ (Y : Cx), EC Y e WF → Y.calm = true → (∃ (s : Shared) (H : Hp) (Cc : Addr) (cl : List (Str × Addr)) (fp : List Addr), Y = X.blk s H scope (compEnvC scope cl Cc X.env) fp) → PG Y tg (tgR e is t) ∧ PTs Y ifs (tT e WF tt) ∧ PE Y elt (tX e WF el))
    (hs : ∀ x, foldedSetIterable iter X.env x = pure x := by intro _; rfl) : PS X (.Assign [.Name y py] (.ListComp elt [⟨tg, iter, ifs, 0⟩] scope pos) spos) (tS e W (setS i (compX (own.map (·.2)) f t tt (frzD el)))) := by
  obtain ⟨h1, hc⟩ := He.ba hc
  obtain ⟨h2, hc⟩ := He.ba hc
  obtain ⟨h3, h4⟩ := He.ba hc
  exact ss_setC C cm F hb (of_decide_eq_true h1) (of_decide_eq_true h2) h3 (by simpa using h4) hi ok his hg hs
end
/-! ### what isn't reached -/
def badX {α : Type} : Mo α := fun _ => .bad
def badS : So := fun _ => .bad
section
variable {X : Cx} {e : Ev} {W : WX} {ex : Expr} {st : Stmt}
theorem xx_bad : PE X ex (tX e W badX) := ⟨fun _ _ _ _ _ _ ⟨_, _, _, _, p⟩ => p.elim⟩
theorem ss_bad : PS X st (tS e W badS) := ⟨fun _ _ _ _ _ _ ⟨_, _, _, _, p⟩ => p.elim⟩
end
/-! ### more short forms -/
section
variable {X : Cx} {N : List Str} {sc : Scope} {x : Str} {pos : Pos} {i : Nat} {e : Ev} {W : WX}
/-- a name's things, as an operand: they stay from here on -/
def frO (i : Nat) : Mo Ar := Mo.bind (frD i) fun d ρ => .ok ρ (.vl d)
theorem xo_fr (h : PE X (.Name x pos) (tVar i)) : PE X (.Name x pos) (tO e W (frO i)) := (xd_nm (e := e) (W := W) h).imp fun σ H Q ⟨Fo, G, ρ, R, p⟩ =>
tG.mono (Post.bind R p) fun v H1 ⟨G1, ρ1, d, g1, R1, r1, p1⟩ => p1.here R1 r1
theorem x0 {c j : Nat} {m : Str} {p p2 pos2 : Pos} {B newId initId : String} {tl : List Value} (C : EC X e W) (cm : X.calm = true) (Fm : Fam B newId initId tl) (q : exc0B e.K tl newId (e.ca c) = true) (F : CF X N sc) (gC : e.mg x = some (.ref (e.ca c))) (hg : glB sc x = true) :
    PS X (.Raise (some (.Call (.Name x p) [.Constant (.str m) j p2] [] pos)) none pos2) (tS e W (raiseS0 c)) := by
  obtain ⟨h1, q⟩ := He.ba q
  obtain ⟨h2, q⟩ := He.ba q
  obtain ⟨h3, h4⟩ := He.ba q
  exact ss_raise0 C cm Fm.base h1 h2 (of_decide_eq_true h3) (of_decide_eq_true h4) (F.g hg) gC (dbg hg)
theorem x1 {P : Program} {w : World} {base : Heap} {d : He.DefD} {c k k0 : Nat} {f px : Str} {a : Expr} {p pos2 : Pos} {B newId initId : String} {tl : List Value} {fn : FuncData} {fd : Mo D} (C : EC X e W) (cm : X.calm = true) (Fm : Fam B newId initId tl) (T : At X P w base) (r : Room k0 X.A)
    (q : oexB e.K tl newId (e.ca c) = true) (O : OkX P w e base d k (e.ca c) f px fn) (q2 : iniB e.K (e.ca c) (He.fAd e.K d.at_) = true) (F : CF X N sc) (gC : e.mg x = some (.ref (e.ca c))) (hk : k + 1 ≤ k0) (hg : glB sc x = true)
    (ha : PE X a (tD e W fd)) (he : starEach [a] X.env = (false, eval a X.env) :: starEach [] X.env := by rfl) : PS X (.Raise (some (.Call (.Name x p) [a] [] pos)) none pos2) (tS e W (raiseS1 c f fd)) := by
  obtain ⟨h1, h2⟩ := He.ba q2
  exact ss_raise1 C cm Fm (oexB_ok q) (of_decide_eq_true h1) (of_decide_eq_true h2) (O.at C T) (r.mono hk) (by rw [C.K]; exact O.b) (F.g hg) gC ha (dbg hg) he
theorem attExc {c : Nat} {f : Str} (h : excB e.K (e.ca c) = true) (h2 : noB e.K (e.ca c) f = true) : AttOk e f c true := by
  have T := excB_ok h
  unfold excB at h
  obtain ⟨k1, h⟩ := He.ba h
  obtain ⟨k2, h⟩ := He.ba h
  obtain ⟨k3, h⟩ := He.ba h
  obtain ⟨k4, h⟩ := He.ba h
  exact .exc (of_decide_eq_true k1) (of_decide_eq_true k2) (of_decide_eq_true k3) k4 (show PySem.W.findIn e.K (.ref (e.ca c)) f = some none from of_decide_eq_true h2)
theorem CF.kd (F : CF X N sc) (h : decide (sc.names.lookup x = some .local) = true) : X.env.kindOf x = some .local := F.ll (of_decide_eq_true h)
theorem names_ok {a : Addr} (F : CF X N sc) (hm : X.mg x = some (.ref a)) (hg : glB sc x = true) : Names X x (.ref a) := ⟨F.g hg, dbg hg, .inl hm⟩
end
end L2.WD
/-! The data layer, part 18: a, b = x, y. -/
namespace L2.WD
open PySem PySem.Spec PySem.Calls PyProof.Rows
def starred (e : Expr) : Bool := match e with
  | .Starred .. => true
  | _ => false
def par2B (px py : Pos) (x y : Str) (a b : Expr) : Bool := !starred a && (!starred b && (px.line == py.line && (!(x == y) && (!([a, b].all (foldedForSure 8)) && !([a, b].all (constantsAlone 8))))))
def par3B (px py pz : Pos) (x y z : Str) (a b c : Expr) : Bool := !starred a && (!starred b && (!starred c && (px.line == py.line && (px.line == pz.line && (decide ([x, y, z].eraseDups.length = 3) && (!([a, b, c].all (foldedForSure 8)) && !([a, b, c].all (constantsAlone 8))))))))
section
variable {X : Cx} {x y z : Str} {px py pz pt pos : Pos} {kt k2 : Nat} {pt2 : Pos} {a b c : Expr}
theorem sw2 (hb : X.env.blockKind = .function) (hx : X.env.kindOf x = some .local) (hy : X.env.kindOf y = some .local) (h : par2B px py x y a b = true) :
    swappedStores [.Tuple [.Name x px, .Name y py] kt pt] (.Tuple [a, b] k2 pt2) X.env = pure (some [x, y]) := by
  unfold par2B at h
  obtain ⟨h1, h⟩ := He.ba h
  obtain ⟨h2, h⟩ := He.ba h
  obtain ⟨h3, h⟩ := He.ba h
  obtain ⟨h4, h⟩ := He.ba h
  obtain ⟨h5, h6⟩ := He.ba h
  have e1 : starred a = false := by simpa only [Bool.not_eq_true'] using h1
  have e2 : starred b = false := by simpa only [Bool.not_eq_true'] using h2
  have e3 : px.line = py.line := by simpa using h3
  have e4 : ¬ x = y := by simpa using h4
  have e4' : ¬ y = x := fun z => e4 z.symm
  have e5 : [a, b].all (foldedForSure 8) = false := by simpa only [Bool.not_eq_true'] using h5
  have e6 : [a, b].all (constantsAlone 8) = false := by simpa only [Bool.not_eq_true'] using h6
  unfold swappedStores
  simp only [e5, e6, hb]
  simp [hx, hy, e3, e4, e4', List.filterMap, List.eraseDups_cons, Expr.pos, bne]
  show (starred a = true ∨ starred b = true) → _
  rw [e1, e2]
  rintro (z | z) <;> cases z
theorem sw3 (hb : X.env.blockKind = .function) (hx : X.env.kindOf x = some .local) (hy : X.env.kindOf y = some .local) (hz : X.env.kindOf z = some .local) (h : par3B px py pz x y z a b c = true) :
    swappedStores [.Tuple [.Name x px, .Name y py, .Name z pz] kt pt] (.Tuple [a, b, c] k2 pt2) X.env = pure (some [x, y, z]) := by
  unfold par3B at h
  obtain ⟨h1, h⟩ := He.ba h
  obtain ⟨h2, h⟩ := He.ba h
  obtain ⟨h2', h⟩ := He.ba h
  obtain ⟨h3, h⟩ := He.ba h
  obtain ⟨h3', h⟩ := He.ba h
  obtain ⟨h4, h⟩ := He.ba h
  obtain ⟨h5, h6⟩ := He.ba h
  have e1 : starred a = false := by simpa only [Bool.not_eq_true'] using h1
  have e2 : starred b = false := by simpa only [Bool.not_eq_true'] using h2
  have e2' : starred c = false := by simpa only [Bool.not_eq_true'] using h2'
  have e3 : px.line = py.line := by simpa using h3
  have e3' : px.line = pz.line := by simpa using h3'
  have e4 : [x, y, z].eraseDups.length = 3 := of_decide_eq_true h4
  have e5 : [a, b, c].all (foldedForSure 8) = false := by simpa only [Bool.not_eq_true'] using h5
  have e6 : [a, b, c].all (constantsAlone 8) = false := by simpa only [Bool.not_eq_true'] using h6
  unfold swappedStores
  simp only [e5, e6, hb]
  simp [hx, hy, hz, ← e3, ← e3', e4, List.filterMap, Expr.pos, bne]
  show (starred a = true ∨ starred b = true ∨ starred c = true) → _
  rw [e1, e2, e2']
  rintro (z | z | z) <;> cases z
end
def free2 (ρ : List Sl) (i j : Nat) : Bool := free ρ i && free ρ j
/-- a, b = x, y -/
def parS (i j : Nat) (f : Mo (List D)) : So := bindS f fun ds ρ => match ds with
  | [d1, d2] => if free2 ρ i j = true then .nx ((ρ.set i (.fz d1)).set j (.fz d2)) else .bad
  | _ => .bad
def parS3 (i j l : Nat) (f : Mo (List D)) : So := bindS f fun ds ρ => match ds with
  | [d1, d2, d3] => if (free2 ρ i j && free ρ l) = true then .nx (((ρ.set i (.fz d1)).set j (.fz d2)).set l (.fz d3)) else .bad
  | _ => .bad
section
variable {X : Cx} {N : List Str} {sc : Scope} {x y z : Str} {i j l : Nat} {e : Ev} {W : WX} {px py pz pt pos : Pos} {kt k2 : Nat} {pt2 : Pos} {a b c : Expr} {f : Mo (List D)}
theorem free_set {ρ : List Sl} {i j : Nat} {d : D} (h : free ρ j = true) : free (ρ.set i (.fz d)) j = true := by
  unfold free at *
  by_cases q : i = j
  · subst q
    cases k : ρ[i]? with
    | none => rw [k] at h; cases h
    | some s =>
      have hl : i < ρ.length := (List.getElem?_eq_some_iff.mp k).1
      simp [List.getElem?_set, hl, Sl.mine]
  · rw [List.getElem?_set_ne q]
    exact h
theorem ss_par (C : EC X e W) (cm : X.calm = true) (F : CF X N sc) (hb : X.env.blockKind = .function) (ha : PA X [a, b] (tAD e W f))
    (h : (stB N sc i x && (stB N sc j y && (decide (sc.names.lookup x = some .local) && (decide (sc.names.lookup y = some .local) && (!(i == j) && par2B px py x y a b))))) = true)
    (hs : swapsWithSole [.Tuple [.Name x px, .Name y py] kt pt] (.Tuple [a, b] k2 pt2) pos.line X.env = pure false := by rfl) :
    PS X (.Assign [.Tuple [.Name x px, .Name y py] kt pt] (.Tuple [a, b] k2 pt2) pos) (tS e W (parS i j f)) := by
  obtain ⟨h1, h⟩ := He.ba h
  obtain ⟨h2, h⟩ := He.ba h
  obtain ⟨h3, h⟩ := He.ba h
  obtain ⟨h4, h⟩ := He.ba h
  obtain ⟨h5, h6⟩ := He.ba h
  have lx := F.ll (of_decide_eq_true h3)
  have ly := F.ll (of_decide_eq_true h4)
  refine (ps_par cm C.nd (F.ix (of_decide_eq_true (He.ba h1).1)) (F.ix (of_decide_eq_true (He.ba h2).1)) (by simpa using h5) lx ly ha (sw2 hb lx ly h6) hs).imp fun En σ H ⟨Fo, G, ρ, R, p⟩ => ?_
  refine tG.mono (PostS.bind R p) fun vs H1 ⟨G1, ρ1, ds, g1, R1, r1, _, p1⟩ => ?_
  match ds, r1, p1 with
  | [d1, d2], .cons (v := v1) q1 (.cons (v := v2) q2 .nil), p1 =>
    refine ⟨v1, v2, rfl, ?_⟩
    have p1 : PostS e W Fo G1 σ ρ1 (if (free ρ1 i && free ρ1 j) = true then Out.nx ((ρ1.set i (Sl.fz d1)).set j (Sl.fz d2)) else Out.bad) En := p1
    by_cases c1 : (free ρ1 i && free ρ1 j) = true
    · rw [if_pos c1] at p1
      obtain ⟨c1, c2⟩ := He.ba c1
      exact p1 G1 _ H1 (L2.Same.refl _) ((free_keep c1).trans (free_keep (free_set c2))) ((R1.put (.fz q1)).put (.fz q2))
    · rw [if_neg c1] at p1
      exact p1.elim
  | [], _, p1 => exact p1.elim
  | [_], _, p1 => exact p1.elim
  | _ :: _ :: _ :: _, _, p1 => exact p1.elim
theorem ss_par3 (C : EC X e W) (cm : X.calm = true) (F : CF X N sc) (hb : X.env.blockKind = .function) (ha : PA X [a, b, c] (tAD e W f))
    (h : (stB N sc i x && (stB N sc j y && (stB N sc l z && (decide (sc.names.lookup x = some .local) && (decide (sc.names.lookup y = some .local) && (decide (sc.names.lookup z = some .local) && (!(i == j) && (!(i == l) && (!(j == l) && par3B px py pz x y z a b c))))))))) = true)
    (hs : swapsWithSole [.Tuple [.Name x px, .Name y py, .Name z pz] kt pt] (.Tuple [a, b, c] k2 pt2) pos.line X.env = pure false := by rfl) :
    PS X (.Assign [.Tuple [.Name x px, .Name y py, .Name z pz] kt pt] (.Tuple [a, b, c] k2 pt2) pos) (tS e W (parS3 i j l f)) := by
  obtain ⟨h1, h⟩ := He.ba h
  obtain ⟨h2, h⟩ := He.ba h
  obtain ⟨h2', h⟩ := He.ba h
  obtain ⟨h3, h⟩ := He.ba h
  obtain ⟨h4, h⟩ := He.ba h
  obtain ⟨h4', h⟩ := He.ba h
  obtain ⟨h5, h⟩ := He.ba h
  obtain ⟨h5', h⟩ := He.ba h
  obtain ⟨h5'', h6⟩ := He.ba h
  have lx := F.ll (of_decide_eq_true h3)
  have ly := F.ll (of_decide_eq_true h4)
  have lz := F.ll (of_decide_eq_true h4')
  refine (ps_par3 cm C.nd (F.ix (of_decide_eq_true (He.ba h1).1)) (F.ix (of_decide_eq_true (He.ba h2).1)) (F.ix (of_decide_eq_true (He.ba h2').1)) (by simpa using h5) (by simpa using h5') (by simpa using h5'') lx ly lz ha (sw3 hb lx ly lz h6) hs).imp fun En σ H ⟨Fo, G, ρ, R, p⟩ => ?_
  refine tG.mono (PostS.bind R p) fun vs H1 ⟨G1, ρ1, ds, g1, R1, r1, _, p1⟩ => ?_
  match ds, r1, p1 with
  | [d1, d2, d3], .cons (v := v1) q1 (.cons (v := v2) q2 (.cons (v := v3) q3 .nil)), p1 =>
    refine ⟨v1, v2, v3, rfl, ?_⟩
    have p1 : PostS e W Fo G1 σ ρ1 (if (free ρ1 i && free ρ1 j && free ρ1 l) = true then Out.nx (((ρ1.set i (Sl.fz d1)).set j (Sl.fz d2)).set l (Sl.fz d3)) else Out.bad) En := p1
    by_cases c1 : (free ρ1 i && free ρ1 j && free ρ1 l) = true
    · rw [if_pos c1] at p1
      obtain ⟨c1, c3⟩ := He.ba c1
      obtain ⟨c1, c2⟩ := He.ba c1
      exact p1 G1 _ H1 (L2.Same.refl _) (((free_keep c1).trans (free_keep (free_set c2))).trans (free_keep (free_set (free_set c3)))) (((R1.put (.fz q1)).put (.fz q2)).put (.fz q3))
    · rw [if_neg c1] at p1
      exact p1.elim
  | [], _, p1 => exact p1.elim
  | [_], _, p1 => exact p1.elim
  | [_, _], _, p1 => exact p1.elim
  | _ :: _ :: _ :: _ :: _, _, p1 => exact p1.elim
end
end L2.WD
/-! The data layer, part 19: the head's Hook, the interpreter's own names told. -/
namespace L2.WD
open PySem PySem.Spec PySem.Calls PyProof.Rows
def asC (g : Addr → Option Obj) (n : Nat) : List Addr := He.asD g n ++ [cStatics]
abbrev AlY : Type := He.AlD × Bool
def obsY (n : Nat) (fa : List He.Fa) (fn : List He.DefD) (ex : PySem.W.Frag → Bool) (g : Addr → Option Obj) : AlY := (He.obsD fa fn (He.frT g (asC g n)), ex (He.frT g (asC g n)))
def hookY (n : Nat) (fa : List He.Fa) (fn : List He.DefD) (ex : PySem.W.Frag → Bool) : PySem.W.Hook where
  α := AlY
  obs := fun s => obsY n fa fn ex s.heap.get?
  val := fun _ => (He.valD fn, true)
  says := fun _ h => ∃ K : PySem.W.Frag, K.In h ∧ He.SaysD fa fn K ∧ ex K = true
  of := fun _ _ e => ⟨_, He.frT_in, congrArg (fun z : AlY => z.1) e, congrArg (fun z : AlY => z.2) e⟩
  keeps := fun _ _ _ ⟨K, hK, c⟩ k => ⟨K, PySem.W.Frag.In.keeps hK k, c⟩
theorem obsY_eq {n : Nat} {fa : List He.Fa} {fn : List He.DefD} {ex : PySem.W.Frag → Bool} {g : Addr → Option Obj} {s : Shared} (h : ∀ a, g a = s.heap.get? a) : obsY n fa fn ex g = (hookY n fa fn ex).obs s := by
  have e : g = s.heap.get? := funext h
  rw [e] <;> rfl
end L2.WD
namespace L2.WD
open PySem PySem.Spec PySem.Calls PyProof.Rows
/-- whatever the world -/
def CXa (P : Program) : CXT := fun outer H s E u s' => ∃ w, L2.CX P w outer H s E u s'
theorem fnOk_any {P : Program} {w : World} {K : PySem.W.Frag} {mg : Str → Option Value} {base : Heap} {k : Nat} {f : Addr} {fd : FuncData} {ps : List Str} {sp : Sp} (F : FnOk P w K mg base (L2.CX P w) k f fd ps sp) : FnOk P w K mg base (CXa P) k f fd ps sp :=
  ⟨F.len, fun A outer s H args us vs Q E hr he hb hv hs => codeAny_mono (F.run A outer s H args us vs Q E hr he hb hv hs) fun r s' h => by
    cases r with
    | ok v => cases v <;> exact h
    | error u => exact ⟨w, h⟩⟩
theorem cxa_no {P : Program} (H : Hp) (s : Shared) (u : Value) (s' : Shared) (h : CXa P [] H s (fun _ _ _ => False) u s') : False := by
  obtain ⟨w, a, B, H', cls, d, _, _, _, _, _, _, _, z⟩ := h
  exact z
theorem funD_one {K : PySem.W.Frag} {x x' qual qual' : Str} {params params' : Arguments} {body body' : List Stmt} {scope scope' : Scope} {dvs dvs' : List V} {kws kws' : List (Str × V)} {f : Addr} {fd fd' : FuncData}
    (F : FunD K x qual params body scope dvs kws f fd) (F' : FunD K x' qual' params' body' scope' dvs' kws' f fd') : fd = fd' := by
  obtain ⟨_, _, _, _, _, _, _, _, _, _, _, l, _⟩ := F.ex
  obtain ⟨_, _, _, _, _, _, _, _, _, _, _, l', _⟩ := F'.ex
  rw [l] at l'
  injection l' with l'
  injection l' with _ _ l' _
  injection l' with l'
/-- the law's def, told by its promise -/
theorem law_spD {e : Ev} {F : Mo Sl} {H : Hp} {a : Addr} {ns : List Int} {E : XK} {ρ : List Sl} (hS : SqL e.K H a (ns.map V.int)) (h : F [.fz (.scr ns)] = .ok ρ (.fz (.bl true))) : spD e 1 F [.ref a] H (fun v _ => v = .bl true) E := by
  refine ⟨rfl, fun _ => none, H, [.fz (.scr ns)], ⟨L2.Same.refl _, (fun _ _ z => by cases z), (fun _ _ z => by cases z), .cons (.fz (.scr hS)) .nil, fun i j b s t h1 h2 o1 o2 => ?_⟩, ?_⟩
  · match i, h1 with
    | 0, h1 =>
      cases h1
      cases o1
    | i + 1, h1 => simp at h1
  · rw [h]
    intro G' H' v g k R r
    cases r.1 with
    | fz d =>
      cases d
      rfl
    | own r => cases r
end L2.WD
/-! The data layer, part 20: the combinators, step by step, by rewriting alone. -/
namespace L2.WD
open PySem PySem.Spec PySem.Calls PyProof.Rows
section
variable {α β γ : Type}
def bR (r : Re α) (k : List Sl → α → Re β) : Re β := match r with
  | .ok ρ a => k ρ a
  | .exc ρ c fs => .exc ρ c fs
  | .bad => .bad
def bS (r : Re α) (k : List Sl → α → Out) : Out := match r with
  | .ok ρ a => k ρ a
  | .exc ρ c fs => .exc ρ c fs
  | .bad => .bad
def nS (o : Out) (k : List Sl → Out) : Out := match o with
  | .nx ρ => k ρ
  | o => o
/-- a target -/
def gS (o : Out) (k : List Sl → β) (b : β) : β := match o with
  | .nx ρ => k ρ
  | _ => b
/-- a loop's body -/
def lS (o : Out) (k : List Sl → Out) : Out := match o with
  | .nx ρ => k ρ
  | .ct ρ => k ρ
  | .bk ρ => .nx ρ
  | o => o
/-- a def's end -/
def fS (as : List Sl) (o : Out) : Re Sl := match o with
  | .rt ρ s => .ok (back as ρ) s
  | .nx ρ => .ok (back as ρ) (.fz .non)
  | .exc ρ c fs => .exc (back as ρ) c fs
  | _ => .bad
def hS (o : Out) (k : List Sl → Nat → List (Str × D) → Out) : Out := match o with
  | .exc ρ c fs => k ρ c fs
  | o => o
def pR (ρ : List Sl) (as : List Ar) (r : Re Sl) : Re Sl := match r with
  | .ok ss s => .ok (wb ρ as ss) s
  | .exc ss c fs => .exc (wb ρ as ss) c fs
  | .bad => .bad
def oR (o : Option α) (k : α → β) (n : β) : β := match o with
  | some a => k a
  | none => n
def cR (c : Bool) (a b : β) : β := match c with
  | true => a
  | false => b
/-- no exception comes through -/
def kR (r : Re α) (k : List Sl → α → Re β) : Re β := match r with
  | .ok ρ a => k ρ a
  | _ => .bad
variable {r r' : Re α} {o o' : Out} {k : List Sl → α → Re β} {kb : List Sl → β} {ks : List Sl → α → Out} {kn : List Sl → Out} {kh : List Sl → Nat → List (Str × D) → Out} {ρ ss : List Sl} {a : α} {c : Nat} {fs : List (Str × D)} {s : Sl} {op op' : Option α} {ko : α → β} {n x y : β} {b b' : Bool} {as : List Ar} {vs : List Sl} {rs rs' : Re Sl}
theorem bR_ok : bR (.ok ρ a) k = k ρ a := Eq.trans rfl rfl
theorem bR_exc : bR (.exc ρ c fs : Re α) k = .exc ρ c fs := Eq.trans rfl rfl
theorem bR_bad : bR (.bad : Re α) k = .bad := Eq.trans rfl rfl
theorem kR_ok : kR (.ok ρ a) k = k ρ a := Eq.trans rfl rfl
theorem bS_ok : bS (.ok ρ a) ks = ks ρ a := Eq.trans rfl rfl
theorem bS_exc : bS (.exc ρ c fs : Re α) ks = .exc ρ c fs := Eq.trans rfl rfl
theorem bS_bad : bS (.bad : Re α) ks = .bad := Eq.trans rfl rfl
theorem nS_nx : nS (.nx ρ) kn = kn ρ := Eq.trans rfl rfl
theorem nS_rt : nS (.rt ρ s) kn = .rt ρ s := Eq.trans rfl rfl
theorem nS_exc : nS (.exc ρ c fs) kn = .exc ρ c fs := Eq.trans rfl rfl
theorem nS_bk : nS (.bk ρ) kn = .bk ρ := Eq.trans rfl rfl
theorem nS_ct : nS (.ct ρ) kn = .ct ρ := Eq.trans rfl rfl
theorem nS_bad : nS .bad kn = .bad := Eq.trans rfl rfl
theorem gS_nx : gS (.nx ρ) kb n = kb ρ := Eq.trans rfl rfl
theorem lS_nx : lS (.nx ρ) kn = kn ρ := Eq.trans rfl rfl
theorem lS_ct : lS (.ct ρ) kn = kn ρ := Eq.trans rfl rfl
theorem lS_bk : lS (.bk ρ) kn = .nx ρ := Eq.trans rfl rfl
theorem lS_rt : lS (.rt ρ s) kn = .rt ρ s := Eq.trans rfl rfl
theorem lS_exc : lS (.exc ρ c fs) kn = .exc ρ c fs := Eq.trans rfl rfl
theorem fS_rt : fS vs (.rt ρ s) = .ok (back vs ρ) s := Eq.trans rfl rfl
theorem fS_nx : fS vs (.nx ρ) = .ok (back vs ρ) (.fz .non) := Eq.trans rfl rfl
theorem fS_exc : fS vs (.exc ρ c fs) = .exc (back vs ρ) c fs := Eq.trans rfl rfl
theorem hS_nx : hS (.nx ρ) kh = .nx ρ := Eq.trans rfl rfl
theorem hS_rt : hS (.rt ρ s) kh = .rt ρ s := Eq.trans rfl rfl
theorem hS_exc : hS (.exc ρ c fs) kh = kh ρ c fs := Eq.trans rfl rfl
theorem pR_ok : pR ρ as (.ok ss s) = .ok (wb ρ as ss) s := Eq.trans rfl rfl
theorem pR_exc : pR ρ as (.exc ss c fs) = .exc (wb ρ as ss) c fs := Eq.trans rfl rfl
theorem oR_some : oR (some a) ko n = ko a := Eq.trans rfl rfl
theorem oR_none : oR none ko n = n := Eq.trans rfl rfl
theorem cR_true : cR true x y = x := Eq.trans rfl rfl
theorem cR_false : cR false x y = y := Eq.trans rfl rfl
end
section
variable {α γ : Type} {ρ : List Sl}
theorem ap_bind (f : Mo α) (k : α → Mo γ) : Mo.bind f k ρ = bR (f ρ) fun ρ a => k a ρ := by
  unfold Mo.bind bR; cases f ρ <;> rfl
theorem ap_pure (a : α) : (Mo.pure a : Mo α) ρ = .ok ρ a := rfl
theorem ap_bindS (f : Mo α) (k : α → So) : bindS f k ρ = bS (f ρ) fun ρ a => k a ρ := by
  unfold bindS bS; cases f ρ <;> rfl
theorem ap_seqS (a b : So) : seqS a b ρ = nS (a ρ) b := by
  unfold seqS nS; cases a ρ <;> rfl
/-- what a slot says of a name -/
def nmS (ρ : List Sl) (i : Nat) : Sl → Re Ar
  | .no => .bad
  | _ => .ok ρ (.sl i)
theorem ap_nmO (i : Nat) : nmO i ρ = oR ρ[i]? (nmS ρ i) .bad := by
  unfold nmO oR nmS
  cases ρ[i]? with
  | none => rfl
  | some s => cases s <;> rfl
theorem ap_cO (d : D) : cO d ρ = .ok ρ (.vl d) := rfl
theorem ap_frzD (f : Mo Sl) : frzD f ρ = bR (f ρ) fun ρ s => oR (frz s) (fun d => .ok ρ d) .bad := by
  unfold frzD; rw [ap_bind]; congr 1; funext ρ s; unfold oR; cases frz s <;> rfl
theorem ap_frzO (f : Mo Sl) : frzO f ρ = bR (f ρ) fun ρ s => oR (frz s) (fun d => .ok ρ (.vl d)) .bad := by
  unfold frzO; rw [ap_bind, ap_frzD]; unfold bR
  cases f ρ with
  | ok ρ s => simp only; unfold oR; cases frz s <;> rfl
  | exc ρ c fs => rfl
  | bad => rfl
def vaS (ρ : List Sl) : Sl → Re Sl
  | .fz d => .ok ρ (.fz d)
  | _ => .bad
def vaA (ρ : List Sl) : Ar → Re Sl
  | .vl d => .ok ρ (.fz d)
  | .sl i => oR ρ[i]? (vaS ρ) .bad
theorem ap_valO (f : Mo Ar) : valO f ρ = bR (f ρ) vaA := by
  unfold valO; rw [ap_bind]; congr 1; funext ρ a
  cases a with
  | vl d => rfl
  | sl i =>
    unfold vaA oR vaS
    dsimp only
    cases ρ[i]? with
    | none => rfl
    | some s => cases s <;> rfl
def vdS (ρ : List Sl) : Sl → Re D
  | .fz d => .ok ρ d
  | _ => .bad
def vdA (ρ : List Sl) : Ar → Re D
  | .vl d => .ok ρ d
  | .sl i => oR ρ[i]? (vdS ρ) .bad
theorem ap_valD (f : Mo Ar) : valD f ρ = bR (f ρ) vdA := by
  unfold valD; rw [ap_bind]; congr 1; funext ρ a
  cases a with
  | vl d => rfl
  | sl i =>
    unfold vdA oR vdS
    dsimp only
    cases ρ[i]? with
    | none => rfl
    | some s => cases s <;> rfl
def coS : Sl → Option D
  | .fz d => some d
  | .ow _ xs => some (.lst xs)
  | _ => none
theorem con_vl (d : D) : con ρ (.vl d) = some d := rfl
theorem con_sl (i : Nat) : con ρ (.sl i) = oR ρ[i]? coS none := by
  unfold con oR coS
  dsimp only
  cases ρ[i]? with
  | none => rfl
  | some s => cases s <;> rfl
theorem conS_nil : conS ρ [] = some [] := rfl
theorem conS_cons (a : Ar) (as : List Ar) : conS ρ (a :: as) = oR (con ρ a) (fun d => oR (conS ρ as) (fun ds => some (d :: ds)) none) none := by
  rw [conS]; unfold oR; cases con ρ a <;> cases conS ρ as <;> rfl
def rO (ρ : List Sl) (o : Option α) : Re α := oR o (fun a => .ok ρ a) .bad
theorem retO_eq (o : Option α) : retO ρ o = oR o (fun a => .ok ρ a) .bad := by cases o <;> rfl
theorem ap_binX (g : D → D → Option Sl) (fa fb : Mo Ar) : binX g fa fb ρ = bR (fa ρ) fun ρ a => bR (fb ρ) fun ρ b => oR (con ρ a) (fun d1 => oR (con ρ b) (fun d2 => oR (g d1 d2) (fun s => .ok ρ s) .bad) .bad) .bad := by
  unfold binX; rw [ap_bind]; congr 1; funext ρ a; rw [ap_bind]; congr 1; funext ρ b
  unfold oR; cases con ρ a <;> cases con ρ b <;> first | rfl | (dsimp only; unfold retO; split <;> simp_all)
theorem ap_unX (g : D → Option Sl) (fa : Mo Ar) : unX g fa ρ = bR (fa ρ) fun ρ a => oR (con ρ a) (fun d1 => oR (g d1) (fun s => .ok ρ s) .bad) .bad := by
  unfold unX; rw [ap_bind]; congr 1; funext ρ a
  unfold oR; cases con ρ a <;> first | rfl | (dsimp only; unfold retO; split <;> simp_all)
theorem ap_caX (g : List D → Option Sl) (fa : Mo (List Ar)) : caX g fa ρ = bR (fa ρ) fun ρ as => oR (conS ρ as) (fun ds => oR (g ds) (fun s => .ok ρ s) .bad) .bad := by
  unfold caX; rw [ap_bind]; congr 1; funext ρ a
  unfold oR; cases conS ρ a <;> first | rfl | (dsimp only; unfold retO; split <;> simp_all)
theorem ap_nilA : nilA ρ = .ok ρ [] := rfl
theorem ap_consA (f : Mo Ar) (g : Mo (List Ar)) : consA f g ρ = bR (f ρ) fun ρ a => bR (g ρ) fun ρ as => .ok ρ (a :: as) := by
  unfold consA; rw [ap_bind]; congr 1
theorem ap_nilD : nilD ρ = .ok ρ [] := rfl
theorem ap_consD (f : Mo D) (g : Mo (List D)) : consD f g ρ = bR (f ρ) fun ρ a => bR (g ρ) fun ρ as => .ok ρ (a :: as) := by
  unfold consD; rw [ap_bind]; congr 1
theorem ap_putS (i : Nat) (s : Sl) : putS i s ρ = cR (free ρ i) (.nx (ρ.set i s)) .bad := by
  unfold putS cR; cases free ρ i <;> rfl
theorem free_eq (i : Nat) : free ρ i = oR ρ[i]? (fun s => !s.mine) false := by
  unfold free oR; cases ρ[i]? <;> rfl
theorem ap_setS (i : Nat) (f : Mo Sl) : setS i f ρ = bS (f ρ) fun ρ s => cR (free ρ i) (.nx (ρ.set i s)) .bad := by
  unfold setS; rw [ap_bindS]; congr 1; funext ρ s; exact ap_putS i s
theorem ap_retS (f : Mo Sl) : retS f ρ = bS (f ρ) .rt := by
  unfold retS; rw [ap_bindS]
theorem ap_exprS (f : Mo α) : exprS f ρ = bS (f ρ) fun ρ _ => .nx ρ := by
  unfold exprS; rw [ap_bindS]
theorem ap_ifS (t : Mo Bool) (a b : So) : ifS t a b ρ = bS (t ρ) fun ρ c => cR c (a ρ) (b ρ) := by
  unfold ifS; rw [ap_bindS]; congr 1; funext ρ c; cases c <;> rfl
theorem ap_nxS : nxS ρ = .nx ρ := rfl
theorem ap_retN : retN ρ = .rt ρ (.fz .non) := rfl
def mvS (ρ : List Sl) (i : Nat) : Sl → Re Sl
  | .fz d => .ok ρ (.fz d)
  | .ow false xs => .ok (ρ.set i .no) (.ow false xs)
  | .oo false c fs => .ok (ρ.set i .no) (.oo false c fs)
  | _ => .bad
theorem ap_mvX (i : Nat) : mvX i ρ = oR ρ[i]? (mvS ρ i) .bad := by
  unfold mvX oR mvS
  cases ρ[i]? with
  | none => rfl
  | some s => cases s <;> first | rfl | (rename_i p _; cases p <;> rfl) | (rename_i p _ _; cases p <;> rfl)
def frS (ρ : List Sl) (i : Nat) : Sl → Re D
  | .fz d => .ok ρ d
  | .ow false xs => .ok (ρ.set i (.fz (.lst xs))) (.lst xs)
  | _ => .bad
theorem ap_frD (i : Nat) : frD i ρ = oR ρ[i]? (frS ρ i) .bad := by
  unfold frD oR frS
  cases ρ[i]? with
  | none => rfl
  | some s => cases s <;> first | rfl | (rename_i p _; cases p <;> rfl) | (rename_i p _ _; cases p <;> rfl)
theorem ap_frO (i : Nat) : frO i ρ = bR (frD i ρ) fun ρ d => .ok ρ (.vl d) := by
  unfold frO; rw [ap_bind]
theorem ap_truO (f : Mo Ar) : truO f ρ = bR (f ρ) fun ρ a => oR (con ρ a) (fun d => oR (truD d) (fun b => .ok ρ b) .bad) .bad := by
  unfold truO; rw [ap_bind]; congr 1; funext ρ a
  unfold oR; cases con ρ a <;> first | rfl | (dsimp only; unfold retO; split <;> simp_all)
def tsS (ρ : List Sl) : Sl → Re Bool
  | .fz (.bl b) => .ok ρ b
  | _ => .bad
theorem ap_tstB (f : Mo Sl) : tstB f ρ = bR (f ρ) tsS := by
  unfold tstB; rw [ap_bind]; congr 1
theorem ap_andT (t u : Mo Bool) : andT t u ρ = bR (t ρ) fun ρ c => cR c (u ρ) (.ok ρ false) := by
  unfold andT; rw [ap_bind]; congr 1; funext ρ c; cases c <;> rfl
theorem ap_orT (t u : Mo Bool) : orT t u ρ = bR (t ρ) fun ρ c => cR c (.ok ρ true) (u ρ) := by
  unfold orT; rw [ap_bind]; congr 1; funext ρ c; cases c <;> rfl
theorem ap_notT (t : Mo Bool) : notT t ρ = bR (t ρ) fun ρ c => .ok ρ (!c) := by
  unfold notT; rw [ap_bind]; rfl
theorem ap_notX (f : Mo Ar) : notX f ρ = bR (truO f ρ) fun ρ c => .ok ρ (.fz (.bl (!c))) := by
  unfold notX; rw [ap_bind]; rfl
theorem ap_andO (f g : Mo Ar) : andO f g ρ = bR (f ρ) fun ρ a => oR (con ρ a) (fun d => oR (truD d) (fun b => cR b (g ρ) (.ok ρ a)) .bad) .bad := by
  unfold andO; rw [ap_bind]; congr 1; funext ρ a
  unfold oR; cases con ρ a with
  | none => rfl
  | some d => dsimp only; cases truD d with
    | none => rfl
    | some b => cases b <;> rfl
theorem ap_orO (f g : Mo Ar) : orO f g ρ = bR (f ρ) fun ρ a => oR (con ρ a) (fun d => oR (truD d) (fun b => cR b (.ok ρ a) (g ρ)) .bad) .bad := by
  unfold orO; rw [ap_bind]; congr 1; funext ρ a
  unfold oR; cases con ρ a with
  | none => rfl
  | some d => dsimp only; cases truD d with
    | none => rfl
    | some b => cases b <;> rfl
theorem ap_ifE (t : Mo Bool) (f g : Mo α) : ifE t f g ρ = bR (t ρ) fun ρ c => cR c (f ρ) (g ρ) := by
  unfold ifE; rw [ap_bind]; congr 1; funext ρ c; cases c <;> rfl
/-- a first comparison's answer -/
def blO : Sl → Option Bool
  | .fz (.bl b) => some b
  | _ => none
theorem ap_chX (g g' : D → D → Option Sl) (fa fb fc : Mo Ar) : chX g g' fa fb fc ρ = bR (fa ρ) fun ρ a => bR (fb ρ) fun ρ b => oR (con ρ a) (fun d1 => oR (con ρ b) (fun d2 => oR (g d1 d2) (fun s => oR (blO s) (fun q => cR q (bR (fc ρ) fun ρ' c => oR (con ρ' b) (fun d2 => oR (con ρ' c) (fun d3 => oR (g' d2 d3) (fun s => .ok ρ' s) .bad) .bad) .bad) (.ok ρ (.fz (.bl false)))) .bad) .bad) .bad) .bad := by
  unfold chX; rw [ap_bind]; congr 1; funext ρ a; rw [ap_bind]; congr 1; funext ρ b
  cases con ρ a with
  | none => rfl
  | some d1 =>
    cases con ρ b with
    | none => rfl
    | some d2 =>
      simp only [oR_some]
      cases g d1 d2 with
      | none => rfl
      | some s =>
        cases s with
        | fz d =>
          cases d with
          | bl q =>
            cases q with
            | true =>
              simp only [oR_some, blO, cR_true, ap_bind]
              congr 1
              funext ρ' c
              cases con ρ' b <;> cases con ρ' c <;> first | rfl | (simp only [oR_some, retO_eq])
            | false => rfl
          | _ => rfl
        | _ => rfl
theorem ap_noO : noO ρ = .ok ρ none := rfl
def ptS (ρ : List Sl) : D → Re (Option Int)
  | .int i => .ok ρ (some i)
  | _ => .bad
theorem ap_ptO (f : Mo Ar) : ptO f ρ = bR (f ρ) fun ρ a => oR (con ρ a) (ptS ρ) .bad := by
  unfold ptO; rw [ap_bind]; congr 1; funext ρ a
  cases con ρ a with
  | none => rfl
  | some d => cases d <;> rfl
theorem ap_slX (f : Mo Ar) (lo hi : Mo (Option Int)) : slX f lo hi ρ = bR (f ρ) fun ρ a => bR (lo ρ) fun ρ l => bR (hi ρ) fun ρ u => oR (con ρ a) (fun d => oR (slD l u d) (fun s => .ok ρ s) .bad) .bad := by
  unfold slX; rw [ap_bind]; congr 1; funext ρ a; rw [ap_bind]; congr 1; funext ρ l; rw [ap_bind]; congr 1; funext ρ u
  cases con ρ a <;> first | rfl | (simp only [oR_some, retO_eq])
theorem ap_tupX (f : Mo (List D)) : tupX f ρ = bR (f ρ) fun ρ ds => cR (decide (ds.length ≤ sizeLine)) (.ok ρ (.fz (.tup ds))) .bad := by
  unfold tupX; rw [ap_bind]; congr 1; funext ρ ds; by_cases c : ds.length ≤ sizeLine <;> simp [c, cR]
theorem ap_lstX (f : Mo (List D)) : lstX f ρ = bR (f ρ) fun ρ ds => cR (decide (ds.length ≤ sizeLine)) (.ok ρ (.ow false ds)) .bad := by
  unfold lstX; rw [ap_bind]; congr 1; funext ρ ds; by_cases c : ds.length ≤ sizeLine <;> simp [c, cR]
theorem ap_dic0X : dic0X ρ = .ok ρ (.fz (.dic [])) := rfl
theorem ap_itX (f : Mo D) : itX f ρ = bR (f ρ) fun ρ d => oR (itemsD d) (fun ds => .ok ρ ds) .bad := by
  unfold itX; rw [ap_bind]; congr 1
theorem ap_enX (f : Mo D) : enX f ρ = bR (f ρ) fun ρ d => oR (enumD d) (fun ds => .ok ρ ds) .bad := by
  unfold enX; rw [ap_bind]; congr 1
def rgS (ρ : List Sl) : D → Re (List D)
  | .int j => cR (decide (-(2 ^ 62) ≤ j ∧ j < 2 ^ 62)) (.ok ρ (rngD 0 j)) .bad
  | _ => .bad
theorem ap_rg1 (f : Mo Ar) : rg1 f ρ = bR (f ρ) fun ρ a => oR (con ρ a) (rgS ρ) .bad := by
  unfold rg1; rw [ap_bind]; congr 1; funext ρ a
  cases con ρ a with
  | none => rfl
  | some d =>
    cases d with
    | int j =>
      show (if -(2 ^ 62) ≤ j ∧ j < 2 ^ 62 then Re.ok ρ (rngD 0 j) else .bad) = cR (decide (-(2 ^ 62) ≤ j ∧ j < 2 ^ 62)) (Re.ok ρ (rngD 0 j)) .bad
      by_cases c : -(2 ^ 62) ≤ j ∧ j < 2 ^ 62
      · rw [if_pos c, decide_eq_true c]; rfl
      · rw [if_neg c, decide_eq_false c]; rfl
    | _ => rfl
theorem ap_gN (i : Nat) (d : D) : gN i d ρ = cR (free ρ i) (.nx (ρ.set i (.fz d))) .bad := ap_putS i (.fz d)
theorem ap_gNilD : gNilD [] ρ = .nx ρ := rfl
theorem ap_gConsD (t : D → So) (u : List D → So) (d : D) (ds : List D) : gConsD t u (d :: ds) ρ = nS (t d ρ) (u ds) := ap_seqS _ _
theorem ap_gTupD (n : Nat) (u : List D → So) (ds : List D) : gTupD n u (.tup ds) ρ = cR (decide (ds.length = n)) (u ds ρ) .bad := by
  unfold gTupD; by_cases c : ds.length = n <;> simp [c, cR]
theorem ap_asgS (f : Mo D) (t : D → So) : asgS f t ρ = bS (f ρ) fun ρ d => gS (t d ρ) .nx .bad := by
  unfold asgS; rw [ap_bindS]; congr 1
theorem ap_forS (f : Mo (List D)) (t : D → So) (body : So) : forS f t body ρ = bS (f ρ) fun ρ ds => loopS t body ds ρ := by
  unfold forS; rw [ap_bindS]
theorem loopS_nil (t : D → So) (body : So) : loopS t body [] ρ = .nx ρ := rfl
theorem loopS_cons (t : D → So) (body : So) (d : D) (ds : List D) : loopS t body (d :: ds) ρ = gS (t d ρ) (fun ρ => lS (body ρ) (loopS t body ds)) .bad := by
  rw [loopS]; unfold gS; dsimp only
  cases t d ρ with
  | nx ρ1 => dsimp only; unfold lS; cases body ρ1 <;> rfl
  | _ => rfl
theorem ap_bodyF (n : Nat) (g : So) (as : List Sl) : bodyF n g as = fS as (g (as.map give ++ List.replicate (n - as.length) .no)) := by
  unfold bodyF fS; cases g (as.map give ++ List.replicate (n - as.length) .no) <;> rfl
theorem ap_callX (F : Mo Sl) (more : List D) (fa : Mo (List Ar)) : callX F more fa ρ = bR (fa ρ) fun ρ as => cR (decide (ownIx ρ as).Nodup) (pR ρ as (F (argS ρ as ++ more.map .fz))) .bad := by
  unfold callX; rw [ap_bind]; congr 1; funext ρ as; unfold appF
  by_cases c : (ownIx ρ as).Nodup
  · rw [if_pos c, decide_eq_true c]; unfold pR cR; cases F (argS ρ as ++ more.map .fz) <;> rfl
  · rw [if_neg c, decide_eq_false c]; rfl
theorem ap_appF (F : Mo Sl) (more : List D) (as : List Ar) : appF F more as ρ = cR (decide (ownIx ρ as).Nodup) (pR ρ as (F (argS ρ as ++ more.map .fz))) .bad := by
  unfold appF
  by_cases c : (ownIx ρ as).Nodup
  · rw [if_pos c, decide_eq_true c]; unfold pR cR; cases F (argS ρ as ++ more.map .fz) <;> rfl
  · rw [if_neg c, decide_eq_false c]; rfl
def tkS (n : Nat) (ρ : List Sl) (i : Nat) : Re Sl := match ρ[i]? with
  | some (.oo _ c fs) => .ok (ρ.take n) (.oo false c fs)
  | _ => .bad
theorem ap_mkX (c : Nat) (F : Mo Sl) (more : List D) (fa : Mo (List Ar)) : mkX c F more fa ρ = bR (fa ρ) fun ρ as => takeR (α := Unit) ρ.length ρ.length (appF F more (.sl ρ.length :: as) (ρ ++ [.oo false c []])) := by
  unfold mkX; rw [ap_bind]
theorem takeR_ok (n i : Nat) (σ : List Sl) : takeR (α := α) n i (.ok σ (.fz .non)) = tkS n σ i := rfl
theorem takeR_exc (n i c : Nat) (σ : List Sl) (fs : List (Str × D)) : takeR (α := α) n i (.exc σ c fs) = .exc (σ.take n) c fs := rfl
def flS (c i : Nat) (f : Str) (ρ : List Sl) (d : D) : Sl → Out
  | .oo m c' fs => cR (decide (c' = c ∧ fs.length < 1000)) (.nx (ρ.set i (.oo m c' (putFD f d fs)))) .bad
  | _ => .bad
theorem ap_fldS (c i : Nat) (f : Str) (fd : Mo D) : fldS c i f fd ρ = bS (fd ρ) fun ρ d => oR ρ[i]? (flS c i f ρ d) .bad := by
  unfold fldS; rw [ap_bindS]; congr 1; funext ρ d; unfold oR flS
  cases ρ[i]? with
  | none => rfl
  | some s =>
    cases s with
    | oo m c' fs =>
      by_cases k : c' = c ∧ fs.length < 1000
      · simp only [if_pos k, decide_eq_true k]; rfl
      · simp only [if_neg k, decide_eq_false k]; rfl
    | _ => rfl
theorem ap_attX (cs : List (Nat × Bool)) (f : Str) (fo : Mo Ar) : attX cs f fo ρ = bR (fo ρ) fun ρ a => oR (attD cs f ρ a) (fun d => .ok ρ (.vl d)) .bad := by
  unfold attX; rw [ap_bind]; congr 1; funext ρ a; unfold oR; cases attD cs f ρ a <;> rfl
theorem ap_raiseS1 (c : Nat) (f : Str) (fd : Mo D) : raiseS1 c f fd ρ = bS (fd ρ) fun ρ d => .exc ρ c [(f, d)] := by
  unfold raiseS1; rw [ap_bindS]
theorem ap_raiseS0 (c : Nat) : raiseS0 c ρ = .exc ρ c [] := rfl
theorem ap_tryS (b : So) (hs : List Hd) : tryS b hs ρ = hS (b ρ) (handle hs) := by
  unfold tryS hS; cases b ρ <;> rfl
theorem handle_nil (c : Nat) (fs : List (Str × D)) : handle [] ρ c fs = .exc ρ c fs := rfl
theorem handle_cons (h : Hd) (hs : List Hd) (c : Nat) (fs : List (Str × D)) : handle (h :: hs) ρ c fs = oR (h.cat c) (fun q => cR q (cR (free ρ h.ix) (goneS h.ix (h.su (ρ.set h.ix (.fz (.exc c fs))))) .bad) (handle hs ρ c fs)) .bad := by
  rw [handle]; unfold oR
  cases h.cat c with
  | none => rfl
  | some q =>
    cases q with
    | true => unfold cR; cases free ρ h.ix <;> rfl
    | false => rfl
def muS (ρ : List Sl) (i : Nat) (g : List D → List D → Option (List D × D)) (ds : List D) : Sl → Re Sl
  | .ow m xs => oR (g xs ds) (fun q => .ok (ρ.set i (.ow m q.1)) (.fz q.2)) .bad
  | _ => .bad
theorem ap_muX (i : Nat) (g : List D → List D → Option (List D × D)) (f : Mo (List D)) : muX i g f ρ = bR (f ρ) fun ρ ds => oR ρ[i]? (muS ρ i g ds) .bad := by
  unfold muX; rw [ap_bind]; congr 1; funext ρ ds; unfold oR muS
  cases ρ[i]? with
  | none => rfl
  | some s =>
    cases s with
    | ow m xs => dsimp only; unfold oR; cases g xs ds <;> rfl
    | _ => rfl
def owB : Sl → Bool
  | .ow _ _ => true
  | _ => false
theorem ap_muN (i : Nat) (f : Mo Sl) : muN i f ρ = cR (oR ρ[i]? owB false) (f ρ) .bad := by
  unfold muN oR owB cR
  cases ρ[i]? with
  | none => rfl
  | some s => cases s <;> rfl
theorem ap_mtX (T : String) (g : D → List D → Option Sl) (fo : Mo Ar) (fa : Mo (List Ar)) : mtX T g fo fa ρ = bR (fo ρ) fun ρ o => oR (con ρ o) (fun d => cR (kindIs T d) (bR (fa ρ) fun ρ' as => oR (con ρ' o) (fun d' => oR (conS ρ' as) (fun ds => oR (g d' ds) (fun s => .ok ρ' s) .bad) .bad) .bad) .bad) .bad := by
  unfold mtX; rw [ap_bind]; congr 1; funext ρ o
  cases con ρ o with
  | none => rfl
  | some d =>
    simp only [oR_some]
    cases kindIs T d with
    | false => rfl
    | true =>
      simp only [if_true, cR_true, ap_bind]
      congr 1
      funext ρ' as
      cases con ρ' o <;> cases conS ρ' as <;> first | rfl | (simp only [oR_some, retO_eq])
theorem hasOw_eq (i : Nat) : hasOw ρ i = oR ρ[i]? owB false := by
  unfold hasOw oR owB
  cases ρ[i]? with
  | none => rfl
  | some s => cases s <;> rfl
def gbS (ρ : List Sl) (i : Nat) (d : D) (k : Int) : Sl → Out
  | .ow m xs => oR (ixN xs.length k) (fun j => .nx (ρ.set i (.ow m (xs.set j d)))) .bad
  | _ => .bad
def gbD (ρ : List Sl) (i : Nat) (d : D) : D → Out
  | .int k => oR ρ[i]? (gbS ρ i d k) .bad
  | _ => .bad
def xS (r : Re α) (k : List Sl → α → Out) : Out := match r with
  | .ok ρ a => k ρ a
  | _ => .bad
theorem xS_ok {a : α} {k : List Sl → α → Out} : xS (.ok ρ a) k = k ρ a := Eq.trans rfl rfl
theorem ap_gSubD (i : Nat) (fi : Mo Ar) (d : D) : gSubD i fi d ρ = cR (hasOw ρ i) (xS (fi ρ) fun ρ1 a => oR (con ρ1 a) (gbD ρ1 i d) .bad) .bad := by
  unfold gSubD cR
  cases hasOw ρ i with
  | false => rfl
  | true =>
    simp only [if_true]
    unfold xS
    cases fi ρ with
    | ok ρ1 a =>
      dsimp only
      unfold oR
      cases con ρ1 a with
      | none => rfl
      | some q =>
        cases q with
        | int k =>
          unfold gbD oR gbS
          dsimp only
          cases ρ1[i]? with
          | none => rfl
          | some s =>
            cases s with
            | ow m xs => dsimp only; unfold oR; cases ixN xs.length k <;> rfl
            | _ => rfl
        | _ => rfl
    | exc ρ1 c fs => rfl
    | bad => rfl
theorem ap_parS (i j : Nat) (f : Mo (List D)) : parS i j f ρ = bS (f ρ) fun ρ ds => (match ds with | [d1, d2] => cR (free2 ρ i j) (.nx ((ρ.set i (.fz d1)).set j (.fz d2))) .bad | _ => .bad) := by
  unfold parS; rw [ap_bindS]; congr 1; funext ρ ds
  match ds with
  | [] => rfl
  | [_] => rfl
  | [d1, d2] => dsimp only; unfold cR; cases free2 ρ i j <;> rfl
  | _ :: _ :: _ :: _ => rfl
theorem ap_kwX (F : Mo Sl) (perm : List Nat) (more : List D) (fa fk : Mo (List Ar)) : kwX F perm more fa fk ρ = bR (fa ρ) fun ρ as => bR (fk ρ) fun ρ bs => appF F [] (selL perm (as ++ bs ++ more.map .vl)) ρ := by
  unfold kwX; rw [ap_bind]; congr 1
theorem ap_yesT : yesT ρ = .ok ρ true := rfl
theorem ap_compX (own : List Nat) (f : Mo (List D)) (t : D → So) (tt : Mo Bool) (el : Mo D) : compX own f t tt el ρ = bR (f ρ) fun ρ ds => cR (decide (ds.length < sizeLine) && own.all (plainSl ρ)) (kR (compL own t tt el ds ρ) fun ρ ys => .ok ρ (.ow false ys)) .bad := by
  unfold compX; rw [ap_bind]; congr 1; funext ρ ds
  by_cases c : ds.length < sizeLine ∧ own.all (plainSl ρ) = true
  · rw [if_pos c]
    simp only [c.1, c.2, decide_true, Bool.and_self, cR_true]
    unfold compE kR
    cases compL own t tt el ds ρ <;> rfl
  · rw [if_neg c]
    have : (decide (ds.length < sizeLine) && own.all (plainSl ρ)) = false := by
      rw [Bool.eq_false_iff]
      intro z
      obtain ⟨z1, z2⟩ := He.ba z
      exact c ⟨of_decide_eq_true z1, z2⟩
    rw [this]
    rfl
theorem compL_nil (own : List Nat) (t : D → So) (tt : Mo Bool) (el : Mo D) : compL own t tt el [] ρ = .ok ρ [] := rfl
theorem compL_cons (own : List Nat) (t : D → So) (tt : Mo Bool) (el : Mo D) (d : D) (ds : List D) : compL own t tt el (d :: ds) ρ = gS (t d (wipeD ρ own)) (fun ρ1 => kR (tt ρ1) fun ρ2 q => cR q (kR (el ρ2) fun ρ3 y => kR (compL own t tt el ds (mixD ρ ρ3 own)) fun ρ4 ys => .ok ρ4 (y :: ys)) (compL own t tt el ds (mixD ρ ρ2 own))) .bad := by
  rw [compL]; unfold gS; dsimp only
  cases t d (wipeD ρ own) with
  | nx ρ1 =>
    dsimp only
    unfold kR
    cases tt ρ1 with
    | ok ρ2 q =>
      cases q with
      | true =>
        dsimp only
        unfold cR
        dsimp only
        cases el ρ2 with
        | ok ρ3 y => dsimp only; cases compL own t tt el ds (mixD ρ ρ3 own) <;> rfl
        | _ => rfl
      | false => rfl
    | _ => rfl
  | _ => rfl
end
/-- a comprehension that leaves the slots as they are -/
theorem compL_map {own : List Nat} {t : D → So} {el : Mo D} {ρ : List Sl} (f : D → D) : ∀ ds : List D, (∀ d ∈ ds, ∃ ρ1 ρ2, t d (wipeD ρ own) = .nx ρ1 ∧ el ρ1 = .ok ρ2 (f d) ∧ mixD ρ ρ2 own = ρ) → compL own t yesT el ds ρ = .ok ρ (ds.map f)
  | [], _ => rfl
  | d :: ds, h => by
    obtain ⟨ρ1, ρ2, h1, h2, h3⟩ := h d (by simp)
    have ih := compL_map f ds fun x hx => h x (by simp [hx])
    rw [compL_cons, h1, gS_nx, ap_yesT, kR_ok, cR_true, h2, kR_ok, h3, ih, kR_ok]
    rfl
section
variable {d : D} {ds xs : List D} {b : Bool} {i : Int} {c n : Nat} {fs : List (Str × D)} {ns : List Int} {z : Str}
theorem frz_fz : frz (.fz d) = some d := rfl
theorem frz_ow : frz (.ow false xs) = some (.lst xs) := rfl
theorem frz_oo : frz (.oo false c fs) = some (.obj c fs) := rfl
theorem truD_bl : truD (.bl b) = some b := rfl
theorem truD_non : truD .non = some false := rfl
theorem truD_int : truD (.int i) = some (i != 0) := rfl
theorem truD_lst : truD (.lst xs) = some (!xs.isEmpty) := rfl
theorem truD_tup : truD (.tup xs) = some (!xs.isEmpty) := rfl
theorem itemsD_lst : itemsD (.lst xs) = some xs := rfl
theorem itemsD_tup : itemsD (.tup xs) = some xs := rfl
theorem itemsD_scr : itemsD (.scr ns) = some (ns.map D.int) := rfl
theorem itemsD_str : itemsD (.str z) = some (z.cps.toList.map fun c => .str ⟨#[c]⟩) := rfl
theorem enumD_lst : enumD (.lst xs) = some (numD 0 xs) := rfl
theorem enumD_tup : enumD (.tup xs) = some (numD 0 xs) := rfl
theorem numD_nil : numD n [] = [] := rfl
theorem numD_cons : numD n (d :: ds) = .tup [.int n, d] :: numD (n + 1) ds := rfl
end
section
variable {d : D} {xs : List D} {p q : Bool} {c : Nat} {fs : List (Str × D)}
theorem mine_no : Sl.mine .no = false := rfl
theorem mine_fz : Sl.mine (.fz d) = false := rfl
theorem mine_ow : Sl.mine (.ow p xs) = p := rfl
theorem mine_oo : Sl.mine (.oo p c fs) = p := rfl
theorem owned_no : Sl.owned .no = false := rfl
theorem owned_fz : Sl.owned (.fz d) = false := rfl
theorem owned_ow : Sl.owned (.ow p xs) = true := rfl
theorem owned_oo : Sl.owned (.oo p c fs) = true := rfl
theorem flag_no : Sl.flag q .no = .no := rfl
theorem flag_fz : Sl.flag q (.fz d) = .fz d := rfl
theorem flag_ow : Sl.flag q (.ow p xs) = .ow q xs := rfl
theorem flag_oo : Sl.flag q (.oo p c fs) = .oo q c fs := rfl
end
end L2.WD
/-! The data layer, part 21: the steps at slots that stand written out. -/
namespace L2.WD
open PySem PySem.Spec PySem.Calls PyProof.Rows
section
variable {α γ : Type} {s0 : Sl} {ρ0 : List Sl}
theorem cp_bind (f : Mo α) (k : α → Mo γ) : Mo.bind f k (s0 :: ρ0) = bR (f (s0 :: ρ0)) fun ρ a => k a ρ := ap_bind (ρ := s0 :: ρ0) f k
theorem cp_pure (a : α) : (Mo.pure a : Mo α) (s0 :: ρ0) = .ok (s0 :: ρ0) a := ap_pure (ρ := s0 :: ρ0) a
theorem cp_bindS (f : Mo α) (k : α → So) : bindS f k (s0 :: ρ0) = bS (f (s0 :: ρ0)) fun ρ a => k a ρ := ap_bindS (ρ := s0 :: ρ0) f k
theorem cp_seqS (a b : So) : seqS a b (s0 :: ρ0) = nS (a (s0 :: ρ0)) b := ap_seqS (ρ := s0 :: ρ0) a b
theorem cp_nmO (i : Nat) : nmO i (s0 :: ρ0) = oR (s0 :: ρ0)[i]? (nmS (s0 :: ρ0) i) .bad := ap_nmO (ρ := s0 :: ρ0) i
theorem cp_cO (d : D) : cO d (s0 :: ρ0) = .ok (s0 :: ρ0) (.vl d) := ap_cO (ρ := s0 :: ρ0) d
theorem cp_frzD (f : Mo Sl) : frzD f (s0 :: ρ0) = bR (f (s0 :: ρ0)) fun ρ s => oR (frz s) (fun d => .ok ρ d) .bad := ap_frzD (ρ := s0 :: ρ0) f
theorem cp_frzO (f : Mo Sl) : frzO f (s0 :: ρ0) = bR (f (s0 :: ρ0)) fun ρ s => oR (frz s) (fun d => .ok ρ (.vl d)) .bad := ap_frzO (ρ := s0 :: ρ0) f
theorem cp_valO (f : Mo Ar) : valO f (s0 :: ρ0) = bR (f (s0 :: ρ0)) vaA := ap_valO (ρ := s0 :: ρ0) f
theorem cp_valD (f : Mo Ar) : valD f (s0 :: ρ0) = bR (f (s0 :: ρ0)) vdA := ap_valD (ρ := s0 :: ρ0) f
theorem cp_binX (g : D → D → Option Sl) (fa fb : Mo Ar) : binX g fa fb (s0 :: ρ0) = bR (fa (s0 :: ρ0)) fun ρ a => bR (fb ρ) fun ρ b => oR (con ρ a) (fun d1 => oR (con ρ b) (fun d2 => oR (g d1 d2) (fun s => .ok ρ s) .bad) .bad) .bad := ap_binX (ρ := s0 :: ρ0) g fa fb
theorem cp_unX (g : D → Option Sl) (fa : Mo Ar) : unX g fa (s0 :: ρ0) = bR (fa (s0 :: ρ0)) fun ρ a => oR (con ρ a) (fun d1 => oR (g d1) (fun s => .ok ρ s) .bad) .bad := ap_unX (ρ := s0 :: ρ0) g fa
theorem cp_caX (g : List D → Option Sl) (fa : Mo (List Ar)) : caX g fa (s0 :: ρ0) = bR (fa (s0 :: ρ0)) fun ρ as => oR (conS ρ as) (fun ds => oR (g ds) (fun s => .ok ρ s) .bad) .bad := ap_caX (ρ := s0 :: ρ0) g fa
theorem cp_nilA : nilA (s0 :: ρ0) = .ok (s0 :: ρ0) [] := ap_nilA (ρ := s0 :: ρ0) 
theorem cp_consA (f : Mo Ar) (g : Mo (List Ar)) : consA f g (s0 :: ρ0) = bR (f (s0 :: ρ0)) fun ρ a => bR (g ρ) fun ρ as => .ok ρ (a :: as) := ap_consA (ρ := s0 :: ρ0) f g
theorem cp_nilD : nilD (s0 :: ρ0) = .ok (s0 :: ρ0) [] := ap_nilD (ρ := s0 :: ρ0) 
theorem cp_consD (f : Mo D) (g : Mo (List D)) : consD f g (s0 :: ρ0) = bR (f (s0 :: ρ0)) fun ρ a => bR (g ρ) fun ρ as => .ok ρ (a :: as) := ap_consD (ρ := s0 :: ρ0) f g
theorem cp_free_eq (i : Nat) : free (s0 :: ρ0) i = oR (s0 :: ρ0)[i]? (fun s => !s.mine) false := free_eq (ρ := s0 :: ρ0) i
theorem cp_setS (i : Nat) (f : Mo Sl) : setS i f (s0 :: ρ0) = bS (f (s0 :: ρ0)) fun ρ s => cR (free ρ i) (.nx (ρ.set i s)) .bad := ap_setS (ρ := s0 :: ρ0) i f
theorem cp_retS (f : Mo Sl) : retS f (s0 :: ρ0) = bS (f (s0 :: ρ0)) .rt := ap_retS (ρ := s0 :: ρ0) f
theorem cp_exprS (f : Mo α) : exprS f (s0 :: ρ0) = bS (f (s0 :: ρ0)) fun ρ _ => .nx ρ := ap_exprS (ρ := s0 :: ρ0) f
theorem cp_ifS (t : Mo Bool) (a b : So) : ifS t a b (s0 :: ρ0) = bS (t (s0 :: ρ0)) fun ρ c => cR c (a ρ) (b ρ) := ap_ifS (ρ := s0 :: ρ0) t a b
theorem cp_nxS : nxS (s0 :: ρ0) = .nx (s0 :: ρ0) := ap_nxS (ρ := s0 :: ρ0) 
theorem cp_retN : retN (s0 :: ρ0) = .rt (s0 :: ρ0) (.fz .non) := ap_retN (ρ := s0 :: ρ0) 
theorem cp_mvX (i : Nat) : mvX i (s0 :: ρ0) = oR (s0 :: ρ0)[i]? (mvS (s0 :: ρ0) i) .bad := ap_mvX (ρ := s0 :: ρ0) i
theorem cp_frD (i : Nat) : frD i (s0 :: ρ0) = oR (s0 :: ρ0)[i]? (frS (s0 :: ρ0) i) .bad := ap_frD (ρ := s0 :: ρ0) i
theorem cp_frO (i : Nat) : frO i (s0 :: ρ0) = bR (frD i (s0 :: ρ0)) fun ρ d => .ok ρ (.vl d) := ap_frO (ρ := s0 :: ρ0) i
theorem cp_truO (f : Mo Ar) : truO f (s0 :: ρ0) = bR (f (s0 :: ρ0)) fun ρ a => oR (con ρ a) (fun d => oR (truD d) (fun b => .ok ρ b) .bad) .bad := ap_truO (ρ := s0 :: ρ0) f
theorem cp_tstB (f : Mo Sl) : tstB f (s0 :: ρ0) = bR (f (s0 :: ρ0)) tsS := ap_tstB (ρ := s0 :: ρ0) f
theorem cp_andT (t u : Mo Bool) : andT t u (s0 :: ρ0) = bR (t (s0 :: ρ0)) fun ρ c => cR c (u ρ) (.ok ρ false) := ap_andT (ρ := s0 :: ρ0) t u
theorem cp_orT (t u : Mo Bool) : orT t u (s0 :: ρ0) = bR (t (s0 :: ρ0)) fun ρ c => cR c (.ok ρ true) (u ρ) := ap_orT (ρ := s0 :: ρ0) t u
theorem cp_notT (t : Mo Bool) : notT t (s0 :: ρ0) = bR (t (s0 :: ρ0)) fun ρ c => .ok ρ (!c) := ap_notT (ρ := s0 :: ρ0) t
theorem cp_notX (f : Mo Ar) : notX f (s0 :: ρ0) = bR (truO f (s0 :: ρ0)) fun ρ c => .ok ρ (.fz (.bl (!c))) := ap_notX (ρ := s0 :: ρ0) f
theorem cp_andO (f g : Mo Ar) : andO f g (s0 :: ρ0) = bR (f (s0 :: ρ0)) fun ρ a => oR (con ρ a) (fun d => oR (truD d) (fun b => cR b (g ρ) (.ok ρ a)) .bad) .bad := ap_andO (ρ := s0 :: ρ0) f g
theorem cp_orO (f g : Mo Ar) : orO f g (s0 :: ρ0) = bR (f (s0 :: ρ0)) fun ρ a => oR (con ρ a) (fun d => oR (truD d) (fun b => cR b (.ok ρ a) (g ρ)) .bad) .bad := ap_orO (ρ := s0 :: ρ0) f g
theorem cp_ifE (t : Mo Bool) (f g : Mo α) : ifE t f g (s0 :: ρ0) = bR (t (s0 :: ρ0)) fun ρ c => cR c (f ρ) (g ρ) := ap_ifE (ρ := s0 :: ρ0) t f g
theorem cp_chX (g g' : D → D → Option Sl) (fa fb fc : Mo Ar) : chX g g' fa fb fc (s0 :: ρ0) = bR (fa (s0 :: ρ0)) fun ρ a => bR (fb ρ) fun ρ b => oR (con ρ a) (fun d1 => oR (con ρ b) (fun d2 => oR (g d1 d2) (fun s => oR (blO s) (fun q => cR q (bR (fc ρ) fun ρ' c => oR (con ρ' b) (fun d2 => oR (con ρ' c) (fun d3 => oR (g' d2 d3) (fun s => .ok ρ' s) .bad) .bad) .bad) (.ok ρ (.fz (.bl false)))) .bad) .bad) .bad) .bad := ap_chX (ρ := s0 :: ρ0) g g' fa fb fc
theorem cp_noO : noO (s0 :: ρ0) = .ok (s0 :: ρ0) none := ap_noO (ρ := s0 :: ρ0) 
theorem cp_ptO (f : Mo Ar) : ptO f (s0 :: ρ0) = bR (f (s0 :: ρ0)) fun ρ a => oR (con ρ a) (ptS ρ) .bad := ap_ptO (ρ := s0 :: ρ0) f
theorem cp_slX (f : Mo Ar) (lo hi : Mo (Option Int)) : slX f lo hi (s0 :: ρ0) = bR (f (s0 :: ρ0)) fun ρ a => bR (lo ρ) fun ρ l => bR (hi ρ) fun ρ u => oR (con ρ a) (fun d => oR (slD l u d) (fun s => .ok ρ s) .bad) .bad := ap_slX (ρ := s0 :: ρ0) f lo hi
theorem cp_tupX (f : Mo (List D)) : tupX f (s0 :: ρ0) = bR (f (s0 :: ρ0)) fun ρ ds => cR (decide (ds.length ≤ sizeLine)) (.ok ρ (.fz (.tup ds))) .bad := ap_tupX (ρ := s0 :: ρ0) f
theorem cp_lstX (f : Mo (List D)) : lstX f (s0 :: ρ0) = bR (f (s0 :: ρ0)) fun ρ ds => cR (decide (ds.length ≤ sizeLine)) (.ok ρ (.ow false ds)) .bad := ap_lstX (ρ := s0 :: ρ0) f
theorem cp_dic0X : dic0X (s0 :: ρ0) = .ok (s0 :: ρ0) (.fz (.dic [])) := ap_dic0X (ρ := s0 :: ρ0) 
theorem cp_itX (f : Mo D) : itX f (s0 :: ρ0) = bR (f (s0 :: ρ0)) fun ρ d => oR (itemsD d) (fun ds => .ok ρ ds) .bad := ap_itX (ρ := s0 :: ρ0) f
theorem cp_enX (f : Mo D) : enX f (s0 :: ρ0) = bR (f (s0 :: ρ0)) fun ρ d => oR (enumD d) (fun ds => .ok ρ ds) .bad := ap_enX (ρ := s0 :: ρ0) f
theorem cp_rg1 (f : Mo Ar) : rg1 f (s0 :: ρ0) = bR (f (s0 :: ρ0)) fun ρ a => oR (con ρ a) (rgS ρ) .bad := ap_rg1 (ρ := s0 :: ρ0) f
theorem cp_gN (i : Nat) (d : D) : gN i d (s0 :: ρ0) = cR (free (s0 :: ρ0) i) (.nx ((s0 :: ρ0).set i (.fz d))) .bad := ap_gN (ρ := s0 :: ρ0) i d
theorem cp_gNilD : gNilD [] (s0 :: ρ0) = .nx (s0 :: ρ0) := ap_gNilD (ρ := s0 :: ρ0) 
theorem cp_gConsD (t : D → So) (u : List D → So) (d : D) (ds : List D) : gConsD t u (d :: ds) (s0 :: ρ0) = nS (t d (s0 :: ρ0)) (u ds) := ap_gConsD (ρ := s0 :: ρ0) t u d ds
theorem cp_gTupD (n : Nat) (u : List D → So) (ds : List D) : gTupD n u (.tup ds) (s0 :: ρ0) = cR (decide (ds.length = n)) (u ds (s0 :: ρ0)) .bad := ap_gTupD (ρ := s0 :: ρ0) n u ds
theorem cp_asgS (f : Mo D) (t : D → So) : asgS f t (s0 :: ρ0) = bS (f (s0 :: ρ0)) fun ρ d => gS (t d ρ) .nx .bad := ap_asgS (ρ := s0 :: ρ0) f t
theorem cp_forS (f : Mo (List D)) (t : D → So) (body : So) : forS f t body (s0 :: ρ0) = bS (f (s0 :: ρ0)) fun ρ ds => loopS t body ds ρ := ap_forS (ρ := s0 :: ρ0) f t body
theorem cp_loopS_cons (t : D → So) (body : So) (d : D) (ds : List D) : loopS t body (d :: ds) (s0 :: ρ0) = gS (t d (s0 :: ρ0)) (fun ρ => lS (body ρ) (loopS t body ds)) .bad := loopS_cons (ρ := s0 :: ρ0) t body d ds
theorem cp_callX (F : Mo Sl) (more : List D) (fa : Mo (List Ar)) : callX F more fa (s0 :: ρ0) = bR (fa (s0 :: ρ0)) fun ρ as => cR (decide (ownIx ρ as).Nodup) (pR ρ as (F (argS ρ as ++ more.map .fz))) .bad := ap_callX (ρ := s0 :: ρ0) F more fa
theorem cp_appF (F : Mo Sl) (more : List D) (as : List Ar) : appF F more as (s0 :: ρ0) = cR (decide (ownIx (s0 :: ρ0) as).Nodup) (pR (s0 :: ρ0) as (F (argS (s0 :: ρ0) as ++ more.map .fz))) .bad := ap_appF (ρ := s0 :: ρ0) F more as
theorem cp_mkX (c : Nat) (F : Mo Sl) (more : List D) (fa : Mo (List Ar)) : mkX c F more fa (s0 :: ρ0) = bR (fa (s0 :: ρ0)) fun ρ as => takeR (α := Unit) ρ.length ρ.length (appF F more (.sl ρ.length :: as) (ρ ++ [.oo false c []])) := ap_mkX (ρ := s0 :: ρ0) c F more fa
theorem cp_fldS (c i : Nat) (f : Str) (fd : Mo D) : fldS c i f fd (s0 :: ρ0) = bS (fd (s0 :: ρ0)) fun ρ d => oR ρ[i]? (flS c i f ρ d) .bad := ap_fldS (ρ := s0 :: ρ0) c i f fd
theorem cp_attX (cs : List (Nat × Bool)) (f : Str) (fo : Mo Ar) : attX cs f fo (s0 :: ρ0) = bR (fo (s0 :: ρ0)) fun ρ a => oR (attD cs f ρ a) (fun d => .ok ρ (.vl d)) .bad := ap_attX (ρ := s0 :: ρ0) cs f fo
theorem cp_raiseS1 (c : Nat) (f : Str) (fd : Mo D) : raiseS1 c f fd (s0 :: ρ0) = bS (fd (s0 :: ρ0)) fun ρ d => .exc ρ c [(f, d)] := ap_raiseS1 (ρ := s0 :: ρ0) c f fd
theorem cp_raiseS0 (c : Nat) : raiseS0 c (s0 :: ρ0) = .exc (s0 :: ρ0) c [] := ap_raiseS0 (ρ := s0 :: ρ0) c
theorem cp_tryS (b : So) (hs : List Hd) : tryS b hs (s0 :: ρ0) = hS (b (s0 :: ρ0)) (handle hs) := ap_tryS (ρ := s0 :: ρ0) b hs
theorem cp_muX (i : Nat) (g : List D → List D → Option (List D × D)) (f : Mo (List D)) : muX i g f (s0 :: ρ0) = bR (f (s0 :: ρ0)) fun ρ ds => oR ρ[i]? (muS ρ i g ds) .bad := ap_muX (ρ := s0 :: ρ0) i g f
theorem cp_muN (i : Nat) (f : Mo Sl) : muN i f (s0 :: ρ0) = cR (oR (s0 :: ρ0)[i]? owB false) (f (s0 :: ρ0)) .bad := ap_muN (ρ := s0 :: ρ0) i f
theorem cp_mtX (T : String) (g : D → List D → Option Sl) (fo : Mo Ar) (fa : Mo (List Ar)) : mtX T g fo fa (s0 :: ρ0) = bR (fo (s0 :: ρ0)) fun ρ o => oR (con ρ o) (fun d => cR (kindIs T d) (bR (fa ρ) fun ρ' as => oR (con ρ' o) (fun d' => oR (conS ρ' as) (fun ds => oR (g d' ds) (fun s => .ok ρ' s) .bad) .bad) .bad) .bad) .bad := ap_mtX (ρ := s0 :: ρ0) T g fo fa
theorem cp_hasOw_eq (i : Nat) : hasOw (s0 :: ρ0) i = oR (s0 :: ρ0)[i]? owB false := hasOw_eq (ρ := s0 :: ρ0) i
theorem cp_gSubD (i : Nat) (fi : Mo Ar) (d : D) : gSubD i fi d (s0 :: ρ0) = cR (hasOw (s0 :: ρ0) i) (xS (fi (s0 :: ρ0)) fun ρ1 a => oR (con ρ1 a) (gbD ρ1 i d) .bad) .bad := ap_gSubD (ρ := s0 :: ρ0) i fi d
theorem cp_parS (i j : Nat) (f : Mo (List D)) : parS i j f (s0 :: ρ0) = bS (f (s0 :: ρ0)) fun ρ ds => (match ds with | [d1, d2] => cR (free2 ρ i j) (.nx ((ρ.set i (.fz d1)).set j (.fz d2))) .bad | _ => .bad) := ap_parS (ρ := s0 :: ρ0) i j f
theorem cp_kwX (F : Mo Sl) (perm : List Nat) (more : List D) (fa fk : Mo (List Ar)) : kwX F perm more fa fk (s0 :: ρ0) = bR (fa (s0 :: ρ0)) fun ρ as => bR (fk ρ) fun ρ bs => appF F [] (selL perm (as ++ bs ++ more.map .vl)) ρ := ap_kwX (ρ := s0 :: ρ0) F perm more fa fk
theorem cp_yesT : yesT (s0 :: ρ0) = .ok (s0 :: ρ0) true := ap_yesT (ρ := s0 :: ρ0) 
theorem cp_compX (own : List Nat) (f : Mo (List D)) (t : D → So) (tt : Mo Bool) (el : Mo D) : compX own f t tt el (s0 :: ρ0) = bR (f (s0 :: ρ0)) fun ρ ds => cR (decide (ds.length < sizeLine) && own.all (plainSl ρ)) (kR (compL own t tt el ds ρ) fun ρ ys => .ok ρ (.ow false ys)) .bad := ap_compX (ρ := s0 :: ρ0) own f t tt el
theorem cp_compL_cons (own : List Nat) (t : D → So) (tt : Mo Bool) (el : Mo D) (d : D) (ds : List D) : compL own t tt el (d :: ds) (s0 :: ρ0) = gS (t d (wipeD (s0 :: ρ0) own)) (fun ρ1 => kR (tt ρ1) fun ρ2 q => cR q (kR (el ρ2) fun ρ3 y => kR (compL own t tt el ds (mixD (s0 :: ρ0) ρ3 own)) fun ρ4 ys => .ok ρ4 (y :: ys)) (compL own t tt el ds (mixD (s0 :: ρ0) ρ2 own))) .bad := compL_cons (ρ := s0 :: ρ0) own t tt el d ds
end
end L2.WD
/-! The data layer, part 22: plain facts of loops, comprehensions, lists, texts. -/
namespace L2.WD
open PySem PySem.Spec PySem.Calls PyProof.Rows
theorem loopS_inv {t : D → So} {body : So} (I : Nat → List Sl → Prop) : ∀ (ds : List D) (k : Nat) (ρ : List Sl), I k ρ → (∀ (j : Nat) (d : D) (ρ : List Sl), ds[j]? = some d → I (k + j) ρ → ∃ ρ1 ρ2, t d ρ = .nx ρ1 ∧ (body ρ1 = .nx ρ2 ∨ body ρ1 = .ct ρ2) ∧ I (k + j + 1) ρ2) →
    ∃ ρ', loopS t body ds ρ = .nx ρ' ∧ I (k + ds.length) ρ'
  | [], k, ρ, h, _ => ⟨ρ, rfl, h⟩
  | d :: ds, k, ρ, h, st => by
    obtain ⟨ρ1, ρ2, e1, e2, h2⟩ := st 0 d ρ rfl h
    obtain ⟨ρ', e3, h3⟩ := loopS_inv I ds (k + 1) ρ2 h2 fun j d' ρ hj hi => by
      have := st (j + 1) d' ρ (by simpa using hj) (by rw [show k + (j + 1) = k + 1 + j by omega]; exact hi)
      rw [show k + (j + 1) = k + 1 + j by omega] at this
      exact this
    refine ⟨ρ', ?_, ?_⟩
    · rw [loopS_cons, e1, gS_nx]
      rcases e2 with e2 | e2 <;> rw [e2]
      · exact e3
      · exact e3
    · rw [show k + (d :: ds).length = k + 1 + ds.length by simp; omega]
      exact h3
theorem compL_inv {own : List Nat} {t : D → So} {el : Mo D} (I : List Sl → Prop) (J : D → Prop) : ∀ (ds : List D) (ρ : List Sl), I ρ → (∀ d ∈ ds, ∀ ρ, I ρ → ∃ ρ1 ρ2 y, t d (wipeD ρ own) = .nx ρ1 ∧ el ρ1 = .ok ρ2 y ∧ I (mixD ρ ρ2 own) ∧ J y) →
    ∃ ρ' ys, compL own t yesT el ds ρ = .ok ρ' ys ∧ I ρ' ∧ ys.length = ds.length ∧ ∀ y ∈ ys, J y
  | [], ρ, h, _ => ⟨ρ, [], rfl, h, rfl, fun _ z => by cases z⟩
  | d :: ds, ρ, h, st => by
    obtain ⟨ρ1, ρ2, y, e1, e2, h2, hy⟩ := st d (by simp) ρ h
    obtain ⟨ρ', ys, e3, h3, hl, hys⟩ := compL_inv I J ds _ h2 fun d' hd => st d' (by simp [hd])
    refine ⟨ρ', y :: ys, ?_, h3, by simp [hl], fun z hz => ?_⟩
    · rw [compL_cons, e1, gS_nx, ap_yesT, kR_ok, cR_true, e2, kR_ok, e3, kR_ok]
    · rcases List.mem_cons.mp hz with rfl | hz
      · exact hy
      · exact hys z hz
theorem compX_map {own : List Nat} {t : D → So} {el : Mo D} {ρ : List Sl} {f : Mo (List D)} {ds : List D} (g : D → D) (hf : f ρ = .ok ρ ds) (hl : ds.length < sizeLine) (hp : own.all (plainSl ρ) = true) (h : ∀ d ∈ ds, ∃ ρ1 ρ2, t d (wipeD ρ own) = .nx ρ1 ∧ el ρ1 = .ok ρ2 (g d) ∧ mixD ρ ρ2 own = ρ) :
    compX own f t yesT el ρ = .ok ρ (.ow false (ds.map g)) := by
  rw [ap_compX, hf, bR_ok, decide_eq_true hl, hp, Bool.and_self, cR_true, compL_map g ds h, kR_ok]
theorem compX_inv {own : List Nat} {t : D → So} {el : Mo D} {ρ : List Sl} {f : Mo (List D)} {ds : List D} (I : List Sl → Prop) (J : D → Prop) (hf : f ρ = .ok ρ ds) (hl : ds.length < sizeLine) (hp : own.all (plainSl ρ) = true) (h0 : I ρ)
    (h : ∀ d ∈ ds, ∀ ρ, I ρ → ∃ ρ1 ρ2 y, t d (wipeD ρ own) = .nx ρ1 ∧ el ρ1 = .ok ρ2 y ∧ I (mixD ρ ρ2 own) ∧ J y) :
    ∃ ρ' ys, compX own f t yesT el ρ = .ok ρ' (.ow false ys) ∧ I ρ' ∧ ys.length = ds.length ∧ ∀ y ∈ ys, J y := by
  obtain ⟨ρ', ys, e, r⟩ := compL_inv I J ds ρ h0 h
  exact ⟨ρ', ys, by rw [ap_compX, hf, bR_ok, decide_eq_true hl, hp, Bool.and_self, cR_true, e, kR_ok], r⟩
theorem atI_in {α : Type} {xs : List α} {i : Int} (h0 : 0 ≤ i) (h1 : i < xs.length) : ∃ d, d ∈ xs ∧ L2.atI xs i = some d := by
  have hi : i.toNat < xs.length := by omega
  refine ⟨xs[i.toNat], List.getElem_mem hi, ?_⟩
  unfold L2.atI ixN
  rw [if_pos h0, if_pos (by omega)]
  show xs[i.toNat]? = _
  rw [List.getElem?_eq_getElem hi]
theorem ixD_lst {xs : List D} {i : Int} (h0 : 0 ≤ i) (h1 : i < xs.length) : ∃ d, d ∈ xs ∧ ixD (.lst xs) (.int i) = some (.fz d) := by
  obtain ⟨d, h, e⟩ := atI_in h0 h1
  exact ⟨d, h, by show (L2.atI xs i).map Sl.fz = _; rw [e]; rfl⟩
theorem ixD_tup {xs : List D} {i : Int} (h0 : 0 ≤ i) (h1 : i < xs.length) : ∃ d, d ∈ xs ∧ ixD (.tup xs) (.int i) = some (.fz d) := by
  obtain ⟨d, h, e⟩ := atI_in h0 h1
  exact ⟨d, h, by show (L2.atI xs i).map Sl.fz = _; rw [e]; rfl⟩
theorem len_toList (z : Str) : z.cps.toList.length = z.length := rfl
theorem ixD_str {z : Str} {i : Int} (hz : z.length ≤ 1000) (h0 : 0 ≤ i) (h1 : i < z.length) : ∃ c, c ∈ z.cps.toList ∧ ixD (.str z) (.int i) = some (.fz (.str ⟨#[c]⟩)) := by
  obtain ⟨c, h, e⟩ := atI_in (xs := z.cps.toList) h0 (by rw [len_toList]; exact h1)
  refine ⟨c, h, ?_⟩
  show (if z.length ≤ sizeLine then (L2.atI z.cps.toList i).map fun c => Sl.fz (.str ⟨#[c]⟩) else none) = _
  rw [if_pos (Nat.le_trans hz (by decide)), e]
  rfl
theorem addD_str {a b : Str} (h : a.length + b.length ≤ 1000) : addD (.str a) (.str b) = some (.fz (.str (a ++ b))) := by
  show (if a.length + b.length ≤ sizeLine then some (Sl.fz (.str (a ++ b))) else none) = _
  rw [if_pos (Nat.le_trans h (by decide))]
theorem len_add (a b : Str) : (a ++ b).length = a.length + b.length := PySem.Str.length_append a b
theorem cutS_len (z : Str) (lo hi : Option Int) : (cutS z lo hi).length ≤ z.length := by
  show ((z.cps.toList.drop (HT.sIx z.length 0 lo)).take (HT.sIx z.length z.length hi - HT.sIx z.length 0 lo)).toArray.size ≤ z.length
  rw [List.size_toArray, List.length_take, List.length_drop, len_toList]
  omega
theorem slD_str {z : Str} {lo hi : Option Int} (h : z.length ≤ 1000) : slD lo hi (.str z) = some (.fz (.str (cutS z lo hi))) := by
  show (if z.length ≤ sizeLine then some (Sl.fz (.str (cutS z lo hi))) else none) = _
  rw [if_pos (Nat.le_trans h (by decide))]
theorem lenD_str {z : Str} (h : z.length ≤ 1000) : lenD (.str z) = some (.fz (.int z.length)) := by
  show (if z.length ≤ sizeLine then some (Sl.fz (.int z.length)) else none) = _
  rw [if_pos (Nat.le_trans h (by decide))]
theorem upper_str {z : Str} (h : z.length ≤ 1000) : upperG (.str z) [] = some (.fz (.str (Txt.upper z))) := by
  show (if z.length ≤ 5592405 then some (Sl.fz (.str (Txt.upper z))) else none) = _
  rw [if_pos (by omega)]
theorem mem_rngD {lo hi : Int} {d : D} (h : d ∈ rngD lo hi) : ∃ i : Int, d = .int i ∧ lo ≤ i ∧ i < hi := by
  unfold rngD at h
  obtain ⟨n, hn, e⟩ := List.mem_map.mp h
  rw [List.mem_range] at hn
  exact ⟨lo + n, e.symm, by omega, by omega⟩
theorem rngD_length (lo hi : Int) : (rngD lo hi).length = (hi - lo).toNat := by simp [rngD]
theorem divmodD_eq {i j : Int} (h0 : 0 < j) (h1 : j < 1073741824) : divmodD (.int i) (.int j) = some (.fz (.tup [.int (i / j), .int (i % j)])) := by
  show (if 0 < j ∧ j < 1073741824 then some (Sl.fz (.tup [.int (i / j), .int (i % j)])) else none) = _
  rw [if_pos ⟨h0, h1⟩]
theorem rgS_nat {ρ : List Sl} {n : Nat} (h : n ≤ 1000000) : rgS ρ (.int n) = .ok ρ (rngD 0 n) := by
  simp only [rgS]
  rw [decide_eq_true (by constructor <;> omega), cR_true]
theorem addD_int {i j : Int} : addD (.int i) (.int j) = some (.fz (.int (i + j))) := rfl
theorem subD_int {i j : Int} : subD (.int i) (.int j) = some (.fz (.int (i - j))) := rfl
end L2.WD
/-! The data layer, part 23: defs that call themselves, ranges with a step, more of assignments, minus, repeats, turned about. -/
namespace L2.WD
open PySem PySem.Spec PySem.Calls PyProof.Rows
theorem fnBad {P : Program} {w : World} {e : Ev} {base : Heap} {k : Nat} {f : Addr} {fd : FuncData} {ps : List Str} : FnOk P w e.K e.mg base (L2.CX P w) k f fd ps (spD e ps.length badX) :=
  ⟨fun vs H Q E h => h.1, fun A outer s H args us vs Q E hr he hb hv hs => by
    obtain ⟨_, Fo, G, ρ, R, p⟩ := hs
    exact p.elim⟩
/-! ### a range with a step -/
section
variable {X : Cx} {e : Ev} {W : WX} {tg a b c : Expr} {pos p : Pos} {fa fb fc : Mo Ar}
def rgcD (i c : Int) (n : Nat) : List D := (List.range n).map fun (m : Nat) => .int (i + (m : Int) * c)
theorem wk_rgc {Fo G H : Hp} {σ : St} {ρ : List Sl} {i c : Int} {n : Nat} : Wk e Fo G σ H ρ (Itc i c n) (rgcD i c n) := by
  refine ⟨YFn fun m => .int (i + (m : Nat) * c), ?_, fun m H x H' G1 g h1 hi' y => ?_⟩
  · unfold rgcD
    rw [List.length_map, List.length_range]
    exact walk_rangeC.mono (fun _ _ => trivial) fun i H x H' _ _ y => y
  · obtain ⟨rfl, y2⟩ := y
    unfold rgcD at hi'
    rw [List.length_map, List.length_range] at hi'
    refine ⟨G1, .int (i + (m : Int) * c), ?_, Gr.refl h1, ?_⟩
    · unfold rgcD
      rw [List.getElem?_map, List.getElem?_range hi']
      rfl
    · rw [y2]
      exact .int _
def rgC (i j c : Int) : Bool := decide (c ≠ 0) && (decide (c.natAbs < 1073741824) && (Builtin.Range.small i j c && decide (0 ≤ Builtin.Range.rangeSize i j c)))
def rg3 (f g h : Mo Ar) : Mo (List D) := Mo.bind f fun a => Mo.bind g fun b => Mo.bind h fun c ρ => match con ρ a, con ρ b, con ρ c with
  | some (.int i), some (.int j), some (.int k) => if rgC i j k = true then .ok ρ (rgcD i k (Builtin.Range.rangeSize i j k).toNat) else .bad
  | _, _, _ => .bad
theorem xi_rg3 (hg : Gl X "range") (hm : X.mg "range" = none) (ha : PE X a (tO e W fa)) (hb : PE X b (tO e W fb)) (hc : PE X c (tO e W fc)) (hs : starEach [a, b, c] X.env = (false, eval a X.env) :: starEach [b, c] X.env := by rfl)
    (hs2 : starEach [b, c] X.env = (false, eval b X.env) :: starEach [c] X.env := by rfl) (hs3 : starEach [c] X.env = [(false, eval c X.env)] := by rfl) (hpl : (backTo pos (starEach [b, c] X.env)).any (·.1) = false := by rfl) : PI X tg (.Call (.Name "range" p) [a, b, c] [] pos) (tI e W (rg3 fa fb fc)) :=
  (pi_range3 hg hm (pa_cons ha (pa_cons hb (pa_cons hc pa_nil hs3) hs2) hs) hs hpl).imp fun σ H Q ⟨Fo, G, ρ, R, p⟩ => by
    refine tG.mono (Post.bind R p) fun v H1 ⟨G1, ρ1, a, g1, R1, r1, p1⟩ => ?_
    refine tG.mono (Post.bind R1 p1) fun v2 H2 ⟨G2, ρ2, b, g2, R2, r2, p2⟩ => ?_
    refine tG.mono (Post.bind R2 p2) fun v3 H3 ⟨G3, ρ3, c, g3, R3, r3, p3⟩ => ?_
    have p4 : Post e W Wk Fo G3 σ ρ3 (match con ρ3 a, con ρ3 b, con ρ3 c with
      | some (.int i), some (.int j), some (.int k) => if rgC i j k = true then .ok ρ3 (rgcD i k (Builtin.Range.rangeSize i j k).toNat) else .bad
      | _, _, _ => .bad) _ := p3
    have r1' := ArR.mono (Fo' := Fo) (H' := H3) (ρ' := ρ3) r1 (g2.trans g3)
    have r2' := ArR.mono (Fo' := Fo) (H' := H3) (ρ' := ρ3) r2 g3
    cases q1 : con ρ3 a with
    | none => rw [q1] at p4; exact p4.elim
    | some d1 =>
      cases q2 : con ρ3 b with
      | none => rw [q1, q2] at p4; cases d1 <;> exact p4.elim
      | some d2 =>
        cases q3 : con ρ3 c with
        | none => rw [q1, q2, q3] at p4; cases d1 <;> cases d2 <;> exact p4.elim
        | some d3 =>
          rw [q1, q2, q3] at p4
          cases d1 with
          | int i =>
            cases d2 with
            | int j =>
              cases d3 with
              | int k =>
                simp only at p4
                by_cases h : rgC i j k = true
                · rw [if_pos h] at p4
                  obtain ⟨h1, h⟩ := He.ba h
                  obtain ⟨h2, h⟩ := He.ba h
                  obtain ⟨h3, h4⟩ := He.ba h
                  refine ⟨i, j, k, (Builtin.Range.rangeSize i j k).toNat, ?_, ⟨of_decide_eq_true h1, of_decide_eq_true h2, h3, ?_⟩, p4.here R3 wk_rgc⟩
                  · rw [(r1'.co R3 q1).int, (r2'.co R3 q2).int, (r3.co R3 q3).int]
                  · have := of_decide_eq_true h4
                    omega
                · rw [if_neg h] at p4
                  exact p4.elim
              | _ => exact p4.elim
            | _ => exact p4.elim
          | _ => exact p4.elim
end
/-! ### stores that aren't turned about -/
section
variable {X : Cx} {x y : Str} {px py pt pos : Pos} {kt k2 : Nat} {pt2 : Pos} {a b : Expr}
theorem sw_const (h : [a, b].all (foldedForSure 8) = true) : swappedStores [.Tuple [.Name x px, .Name y py] kt pt] (.Tuple [a, b] k2 pt2) X.env = pure none := by
  unfold swappedStores
  simp only [h]
  simp
theorem sw_cell1 (h : X.env.kindOf x = some .cell) : swappedStores [.Tuple [.Name x px, .Name y py] kt pt] (.Tuple [a, b] k2 pt2) X.env = pure none := by
  unfold swappedStores
  simp [h, List.filterMap]
  intro _ _ _ hl
  exfalso
  revert hl
  split <;> simp
theorem sw_cell2 (h : X.env.kindOf y = some .cell) : swappedStores [.Tuple [.Name x px, .Name y py] kt pt] (.Tuple [a, b] k2 pt2) X.env = pure none := by
  unfold swappedStores
  simp [h, List.filterMap]
  intro _ _ _ hl
  exfalso
  revert hl
  split <;> simp
end
/-! ### minus -/
def negD : D → Option Sl
  | .int i => some (.fz (.int (-i)))
  | _ => none
theorem ug_neg {e : Ev} : UnG e (rU fun i => .int (-i)) negD := by
  intro G H x d s Q g h hs q
  cases d with
  | int i =>
    cases h.int
    cases hs
    exact ⟨i, rfl, q G H _ (Gr.refl g) (.int _)⟩
  | _ => cases hs
/-! ### repeats -/
/-- a short factor, or not too long a product -/
def mulC (i j : Int) : Bool := decide (i.natAbs < 2 ^ 64) || (decide (j.natAbs < 2 ^ 64) || decide (i.natAbs.log2 + j.natAbs.log2 < 1000000))
def CMulU (i j : Int) : Prop := CMul i j ∨ CMulW i j
theorem mulC_ok {i j : Int} (h : mulC i j = true) : CMulU i j := by
  unfold mulC at h
  simp only [Bool.or_eq_true, decide_eq_true_eq] at h
  rcases h with h | h | h
  · exact .inl (.inl ⟨by omega, by omega⟩)
  · exact .inl (.inr ⟨by omega, by omega⟩)
  · exact .inr h
theorem op_mul2 {X : Cx} : OpR X (binaryOp .Mult) (rI CMulU fun i j => .int (i * j)) := fun pins s σ H x y v u Q I rx ry ⟨i, j, h1, h2, c, q⟩ => by
  rcases c with c | c
  · exact op_mul pins s σ H x y v u Q I rx ry ⟨i, j, h1, h2, c, q⟩
  · exact op_mulW pins s σ H x y v u Q I rx ry ⟨i, j, h1, h2, c, q⟩
def mulUD : D → D → Option Sl := intD mulC fun i j => i * j
theorem og_mul2 {e : Ev} : OpG e (rI CMulU fun i j => .int (i * j)) mulUD := og_int fun i j h => mulC_ok h
def repD : D → D → Option Sl
  | .int i, .int j => mulUD (.int i) (.int j)
  | .lst xs, .int k => if -(2 ^ 63) ≤ k ∧ k < 2 ^ 63 ∧ xs.length * k.toNat ≤ sizeLine then some (.ow false (List.replicate k.toNat xs).flatten) else none
  | .tup xs, .int k => if xs ≠ [] ∧ 2 ≤ k ∧ k ≤ 1000 ∧ xs.length ≤ 1000 then some (.fz (.tup (List.replicate k.toNat xs).flatten)) else none
  | _, _ => none
section
variable {X : Cx} {e : Ev}
def rMulU (K : PySem.W.Frag) : R2 := ror (rI CMulU fun i j => .int (i * j)) (ror rRep (rRepT K))
theorem op_mulU (C : X.K = e.K) : OpR X (binaryOp .Mult) (rMulU e.K) := opr_or op_mul2 (opr_or op_rep (by rw [← C]; exact op_repT))
theorem DRs.rep {G : Hp} {vs : List V} {ds : List D} (h : DRs e G vs ds) : ∀ n : Nat, DRs e G (List.replicate n vs).flatten (List.replicate n ds).flatten
  | 0 => .nil
  | n + 1 => by
    rw [List.replicate_succ, List.replicate_succ, List.flatten_cons, List.flatten_cons]
    exact h.append (DRs.rep h n)
theorem og_rep : OpG e (rMulU e.K) repD := by
  intro G H x y d1 d2 s Q g h1 h2 hs q
  cases d1 with
  | int i =>
    cases d2 with
    | int j => exact .inl (og_mul2 G H x y _ _ s Q g h1 h2 hs q)
    | _ => cases hs
  | lst xs =>
    cases d2 with
    | int k =>
      obtain ⟨b, ws, rfl, k1, k2⟩ := h1.lst g
      cases h2.int
      have hs : (if -(2 ^ 63) ≤ k ∧ k < 2 ^ 63 ∧ xs.length * k.toNat ≤ sizeLine then some (Sl.ow false (List.replicate k.toNat xs).flatten) else none) = some s := hs
      by_cases c : -(2 ^ 63) ≤ k ∧ k < 2 ^ 63 ∧ xs.length * k.toNat ≤ sizeLine
      · rw [if_pos c] at hs
        cases hs
        refine .inr (.inl ⟨b, k, ws, rfl, rfl, k1, c.1, c.2.1, by rw [k2.length]; exact c.2.2, fun p np => ?_⟩)
        have := Gr.new_lst (e := e) g np (k2.rep k.toNat)
        exact q _ _ _ this.1 this.2
      · rw [if_neg c] at hs
        cases hs
    | _ => cases hs
  | tup xs =>
    cases d2 with
    | int k =>
      obtain ⟨b, ws, rfl, k1, k2⟩ := h1.tup g
      cases h2.int
      have hs : (if xs ≠ [] ∧ 2 ≤ k ∧ k ≤ 1000 ∧ xs.length ≤ 1000 then some (Sl.fz (.tup (List.replicate k.toNat xs).flatten)) else none) = some s := hs
      by_cases c : xs ≠ [] ∧ 2 ≤ k ∧ k ≤ 1000 ∧ xs.length ≤ 1000
      · rw [if_pos c] at hs
        cases hs
        refine .inr (.inr ⟨b, k, ws, rfl, rfl, k1, ?_, c.2.1, c.2.2.1, by rw [k2.length]; exact c.2.2.2, fun p np => ?_⟩)
        · intro z
          have := k2.length
          rw [z] at this
          exact c.1 (List.length_eq_zero_iff.mp this.symm)
        · have := Gr.new_tup (e := e) g np (k2.rep k.toNat)
          exact q _ _ _ this.1 this.2
      · rw [if_neg c] at hs
        cases hs
    | _ => cases hs
  | _ => cases d2 <;> cases hs
end
/-! ### turned about -/
def revD : D → Option Sl
  | .lst xs => some (.ow false xs.reverse)
  | .tup xs => some (.fz (.tup xs.reverse))
  | _ => none
section
open HT
variable {prog : Program} {w : World} {A : Around} {E : Value → Shared → Prop} {s : Shared}
theorem rev_applied {sl : Addr} {vl vu vs : Value} {n : Nat} {Q : Int × Int × Nat → Shared → Prop} (hs : s.heap.IsSliceOf sl vl vu vs) (pl : IsPart vl none) (pu : IsPart vu none) (ps : IsPart vs (some (-1)))
    (h : Q ((n : Int) - 1, -1, n) s) : wpAny (model prog w) A (Builtin.Slice.sliceApplied (.ref sl) (pure (n : Int))) Q E s := by
  obtain ⟨os, hos, hcs, hds⟩ := id hs
  unfold Builtin.Slice.sliceApplied Builtin.Slice.sliceFields
  refine wpAny_bind (wpAny_bind (wpAny_field hos hds (x := vl) rfl (wpAny_bind (wpAny_field hos hds (x := vu) rfl (wpAny_bind (wpAny_field hos hds (x := vs) rfl (wpAny_pure ?_)))))))
  refine wpAny_bind (slicePart_ ps ?_)
  show wpAny _ _ (if ((-1 : Int) == 0) = true then _ else _) _ _ s
  rw [if_neg (by decide)]
  refine wpAny_bind (slicePart_ pl (wpAny_bind (slicePart_ pu (wpAny_bind (wpAny_pure ?_)))))
  show wpAny _ _ (match Builtin.Slice.sliceAdjust none none (-1) (n : Int) with | (lo, hi) => pure (lo, (-1 : Int), Builtin.Slice.slicePlaces lo hi (-1))) _ _ s
  have e1 : Builtin.Slice.sliceAdjust none none (-1) (n : Int) = ((n : Int) - 1, -1) := rfl
  have e2 : Builtin.Slice.slicePlaces ((n : Int) - 1) (-1) (-1) = n := by
    unfold Builtin.Slice.slicePlaces
    have h1 : ¬ ((-1 : Int) > 0) := by decide
    simp only [h1, if_false]
    split
    · rw [show (- -1 : Int) = 1 by decide, Int.ediv_one]
      omega
    · omega
  rw [e1]
  show wpAny _ _ (pure ((n : Int) - 1, (-1 : Int), Builtin.Slice.slicePlaces ((n : Int) - 1) (-1) (-1))) _ _ s
  rw [e2]
  exact wpAny_pure h
theorem fm_congr {α β : Type} {f g : α → Option β} : ∀ {l : List α}, (∀ a ∈ l, f a = g a) → l.filterMap f = l.filterMap g
  | [], _ => rfl
  | a :: l, h => by
    rw [List.filterMap_cons, List.filterMap_cons, h a (by simp), fm_congr fun b hb => h b (by simp [hb])]
theorem rev_pick (xs : Array Value) : ((List.range xs.size).filterMap fun (m : Nat) => xs[((xs.size : Int) - 1 + (m : Int) * (-1)).toNat]?).toArray = xs.toList.reverse.toArray := by
  have e : (List.range xs.size).filterMap (fun (m : Nat) => xs[((xs.size : Int) - 1 + (m : Int) * (-1)).toNat]?) = ((List.range xs.size).map fun k => xs.size - 1 - k).filterMap (xs[·]?) := by
    rw [List.filterMap_map]
    apply fm_congr
    intro m hm
    have := List.mem_range.mp hm
    show xs[((xs.size : Int) - 1 + (m : Int) * (-1)).toNat]? = xs[xs.size - 1 - m]?
    congr 1
    omega
  rw [e, PySem.W.krv_range, List.filterMap_reverse, PySem.W.krv_all]
theorem getItem_tuple_rev {t sl : Addr} {items : Array Value} {vl vu vs : Value} {Q : Value → Shared → Prop} (ht : IsTup s.heap t items) (hs : s.heap.IsSliceOf sl vl vu vs) (pl : IsPart vl none) (pu : IsPart vu none) (ps : IsPart vs (some (-1)))
    (h : Q (.ref s.heap.objs.size) { s with heap := s.heap.push { cls := .type "tuple", data := .seq items.toList.reverse.toArray } })
    (hsz : items.size ≤ sizeLine) : wpAny (model prog w) A (getItem (.ref t) (.ref sl)) Q E s := by
  have htake : sizeOk (.seq items.toList.reverse.toArray) := by
    show items.toList.reverse.toArray.size ≤ sizeLine
    rw [List.size_toArray, List.length_reverse, Array.length_toList]
    exact hsz
  obtain ⟨os, hos, hcs, hds⟩ := id hs
  have hTs : s.TypeIs (.ref sl) "slice" := ⟨os, hos, hcs⟩
  unfold getItem
  try with_reducible refine wpAny_holding ?_
  first | refine wpAny_bind (wpAny_pure ?_) | skip
  refine wpAny_bind (wpAny_sequenceKey ht.typeIs (by decide) ?_)
  refine wpAny_bind (wpAny_callSpecial?_slot (name := Str.ofString "__getitem__") ht.typeIs PyProof.Rows.slot_tuple_getitem
    (wpAny_call_entry PyProof.Rows.slot_tuple_getitem ht.typeIs entry_tuple_getitem ?_ (args_tuple_getitem _ _)))
  show wpAny _ _ (Builtin.Tuple.tupleItemsOf (.ref t) >>= _) _ _ s
  refine wpAny_bind (tupleItemsOf_ ht ?_)
  refine wpAny_bind (wpAny_typeOf hTs ?_)
  rw [if_pos (by decide)]
  refine wpAny_bind (rev_applied hs pl pu ps ?_)
  have hno : ¬ (((((items.size : Nat) : Int) - 1) == 0 && (-1 : Int) == 1 && items.size == items.size) = true) := by
    intro q
    rw [Bool.and_eq_true, Bool.and_eq_true] at q
    exact absurd (eq_of_beq q.1.2) (by decide)
  show wpAny _ _ (if ((((items.size : Nat) : Int) - 1) == 0 && (-1 : Int) == 1 && items.size == items.size) = true then _ else _) _ _ s
  rw [if_neg hno, rev_pick]
  first
    | exact wpAny_bind (m := Builtin.Tuple.tupleExact _) (wpAny_newObj_type (wpAny_pure ⟨_, rfl, wpAny_pure h⟩) htake)
    | exact wpAny_bind (m := Builtin.Tuple.tupleExact _) (wpAny_newObj_type (wpAny_bind (wpAny_pure (wpAny_pure ⟨_, rfl, wpAny_pure h⟩))) htake)
    | exact wpAny_bind (wpAny_bind (m := Builtin.Tuple.tupleExact _) (wpAny_newObj_type (wpAny_pure (wpAny_pure ⟨_, rfl, wpAny_pure h⟩)) htake))
    | exact wpAny_bind (wpAny_bind (m := Builtin.Tuple.tupleExact _) (wpAny_newObj_type (wpAny_pure ⟨_, rfl, wpAny_pure h⟩) htake))
end
section
variable {X : Cx} {e : Ev} {W : WX}
/-- xs[::-1], of a list or a tuple -/
def tRevU (K : PySem.W.Frag) (te : TE) : TE := fun σ H Q => te σ H fun x H1 => ∃ a xs, x = .ref a ∧ (SqL K H1 a xs ∧ (∀ p, H1 p = none → Q (.ref p) (upd H1 p (.lst xs.reverse))) ∨ SqT K H1 a xs ∧ ∀ p, H1 p = none → Q (.ref p) (upd H1 p (.tup xs.reverse)))
theorem pe_revU {ex : Expr} {te : TE} {k : Nat} {p1 p2 p3 pos : Pos} (he : PE X ex te) : PE X (.Subscript ex (.Slice none none (some (.UnaryOp .USub (.Constant (.int 1) k p1) p2)) p3) pos) (tRevU X.K te) := by
  refine ⟨fun pins s σ H Q I h => ?_⟩
  refine Subscript_ (thn (he.run pins s σ H _ I h) fun v s1 ⟨x, H1, I1, r1, q1⟩ => ?_)
  obtain ⟨a, xs, ex, q1⟩ := q1
  subst ex
  cases r1
  have hst : PO X (some (.UnaryOp .USub (.Constant (.int 1) k p1) p2)) (tPart (tUn (rU fun i => .int (-i)) (tC (.int 1)))) := po_some (pe_un un_neg pe_int)
  refine wpAny_Slice (thn (po_none.run pins s1 σ H1 (fun o H2 => o = none ∧ H2 = H1) I1 ⟨rfl, rfl⟩) fun vl s2 ⟨l, H2, I2, pl, el, e2⟩ => ?_)
  subst el e2
  refine thn (po_none.run pins s2 σ H2 (fun o H3 => o = none ∧ H3 = H2) I2 ⟨rfl, rfl⟩) fun vu s3 ⟨u, H3, I3, pu, eu, e3⟩ => ?_
  subst eu e3
  refine thn (hst.run pins s3 σ H3 (fun o H4 => o = some (-1) ∧ H4 = H3) I3 ⟨1, rfl, -1, rfl, rfl, rfl⟩) fun vs s4 ⟨o, H4, I4, ps, eo, e4⟩ => ?_
  subst eo e4
  have I5 : Inv X pins σ H4 { s4 with heap := s4.heap.push { cls := .type "slice", data := .fields #[vl, vu, vs] } } := I4.kept (t' := s4.toks) fun b ob q => Heap.get?_push_of_some _ q
  show wpAny (model X.prog X.w) X.A (subscriptTail ex (.Slice none none (some (.UnaryOp .USub (.Constant (.int 1) k p1) p2)) p3) (.ref a) (.ref s4.heap.objs.size)) (EP X pins σ Q) X.xe { s4 with heap := s4.heap.push { cls := .type "slice", data := .fields #[vl, vu, vs] } }
  rcases q1 with ⟨hx, q⟩ | ⟨hx, q⟩
  · obtain ⟨its, r, ht, hz⟩ := I5.list hx
    have hlen := r.length
    refine tail_any (ops := [.ref a, .ref s4.heap.objs.size]) ht.isList.typeIs (PySem.slot_list_getitem.lookup) ?_ (by with_unfolding_all rfl)
    refine wpAny_getItem_list_slice ht.isList (Heap.IsSliceOf.new _ vl vu vs) pl pu ps (by decide) ?_ (by rw [List.size_toArray]; omega)
    rw [PySem.W.krv_pick]
    refine ⟨.ref _, _, I5.laid (t' := s4.toks) (o := .lst xs.reverse) (fun b ob q => Heap.get?_push_of_some _ q) (Nat.le_refl _) ?_, rfl, q _ (I5.hok.fresh (Nat.le_refl _))⟩
    exact ⟨by rw [List.length_reverse]; exact hz, _, 0, r.reverse, Heap.get?_push_size _ rfl⟩
  · obtain ⟨its, r, ht, hz⟩ := I5.tuple hx
    have hlen : its.toArray.size = xs.length := by rw [List.size_toArray]; exact r.length.symm
    refine tail_any (ops := [.ref a, .ref s4.heap.objs.size]) ht.typeIs (PyProof.Rows.slot_tuple_getitem.lookup) ?_ (by with_unfolding_all rfl)
    refine getItem_tuple_rev ht (Heap.IsSliceOf.new _ vl vu vs) pl pu ps ?_ (by rw [hlen]; exact hz)
    refine ⟨.ref _, _, I5.laid (t' := s4.toks) (o := .tup xs.reverse) (fun b ob q => Heap.get?_push_of_some _ q) (Nat.le_refl _) ?_, rfl, q _ (I5.hok.fresh (Nat.le_refl _))⟩
    exact ⟨by rw [List.length_reverse]; exact hz, _, r.reverse, IsTup.new _ _⟩
theorem DRs.rev {G : Hp} : ∀ {vs : List V} {ds : List D}, DRs e G vs ds → DRs e G vs.reverse ds.reverse
  | _, _, .nil => .nil
  | _, _, .cons r t => by
    rw [List.reverse_cons, List.reverse_cons]
    exact (DRs.rev t).append (.cons r .nil)
theorem xx_rev {ex : Expr} {fa : Mo Ar} {k : Nat} {p1 p2 p3 pos : Pos} (C : X.K = e.K) (ha : PE X ex (tO e W fa)) : PE X (.Subscript ex (.Slice none none (some (.UnaryOp .USub (.Constant (.int 1) k p1) p2)) p3) pos) (tX e W (unX revD fa)) :=
  (pe_revU ha).imp fun σ H Q ⟨Fo, G, ρ, R, p⟩ => by
    rw [C]
    refine tG.mono (Post.bind R p) fun v H1 ⟨G1, ρ1, a, g1, R1, r1, p1⟩ => ?_
    cases q1 : con ρ1 a with
    | none => simp only [q1] at p1; exact p1.elim
    | some d =>
      simp only [q1] at p1
      have r2 := r1.co R1 q1
      cases d with
      | lst xs =>
        obtain ⟨b, ws, rfl, k1, k2⟩ := r2.lst R1.gh
        refine ⟨b, ws, rfl, .inl ⟨SqL.of k1, fun p np => ?_⟩⟩
        have := Gr.new_lst (e := e) R1.gh np k2.rev
        exact Post.new R1 p1 this.1 this.2
      | tup xs =>
        obtain ⟨b, ws, rfl, k1, k2⟩ := r2.tup R1.gh
        refine ⟨b, ws, rfl, .inr ⟨k1, fun p np => ?_⟩⟩
        have := Gr.new_tup (e := e) R1.gh np k2.rev
        exact Post.new R1 p1 this.1 this.2
      | _ => exact p1.elim
end
/-! ### sorted texts -/
def leS (a b : Str) : Bool := !ltCps b.cps.toList a.cps.toList
def insS (a : Str) : List Str → List Str
  | [] => [a]
  | b :: r => if leS a b = true then a :: b :: r else b :: insS a r
def sortS : List Str → List Str
  | [] => []
  | a :: r => insS a (sortS r)
theorem leS_iff {a b : Str} : leS a b = true ↔ ¬ (b.cps.toList < a.cps.toList) := by
  unfold leS
  rw [ltCps_eq]
  simp
theorem leS_total (a b : Str) : leS a b = true ∨ leS b a = true := by
  rw [leS_iff, leS_iff]
  by_cases h : b.cps.toList < a.cps.toList
  · exact .inr (List.lt_asymm h)
  · exact .inl h
theorem leS_trans {a b c : Str} (h1 : leS a b = true) (h2 : leS b c = true) : leS a c = true := by
  rw [leS_iff] at *
  exact List.le_trans (show a.cps.toList ≤ b.cps.toList from h1) h2
theorem leS_anti {a b : Str} (h1 : leS a b = true) (h2 : leS b a = true) : a = b := by
  rw [leS_iff] at *
  exact PySem.Str.ext' (Array.toList_inj.mp (List.le_antisymm h1 h2))
theorem insS_perm (a : Str) : ∀ l : List Str, (insS a l).Perm (a :: l)
  | [] => .refl _
  | b :: r => by
    unfold insS
    by_cases c : leS a b = true
    · rw [if_pos c]
    · rw [if_neg c]
      exact ((insS_perm a r).cons b).trans (.swap a b r)
theorem sortS_perm : ∀ l : List Str, (sortS l).Perm l
  | [] => .refl _
  | a :: r => (insS_perm a (sortS r)).trans ((sortS_perm r).cons a)
theorem insS_pw (a : Str) : ∀ l : List Str, l.Pairwise (fun x y => leS x y = true) → (insS a l).Pairwise (fun x y => leS x y = true)
  | [], _ => List.pairwise_singleton _ _
  | b :: r, h => by
    obtain ⟨h1, h2⟩ := List.pairwise_cons.mp h
    unfold insS
    by_cases c : leS a b = true
    · rw [if_pos c]
      refine List.pairwise_cons.mpr ⟨fun z hz => ?_, h⟩
      rcases List.mem_cons.mp hz with rfl | hz
      · exact c
      · exact leS_trans c (h1 z hz)
    · rw [if_neg c]
      refine List.pairwise_cons.mpr ⟨fun z hz => ?_, insS_pw a r h2⟩
      rcases List.mem_cons.mp ((insS_perm a r).mem_iff.mp hz) with rfl | hz
      · exact (leS_total z b).resolve_left c
      · exact h1 z hz
theorem sortS_pw : ∀ l : List Str, (sortS l).Pairwise (fun x y => leS x y = true)
  | [] => .nil
  | a :: r => insS_pw a _ (sortS_pw r)
theorem rising_pw : ∀ (l : List Str) (p : Str), risingS p l = true → (p :: l).Pairwise (fun x y => leS x y = true)
  | [], p, _ => List.pairwise_singleton _ _
  | x :: r, p, h => by
    obtain ⟨h1, h2⟩ := He.ba (show (leS p x && risingS x r) = true from h)
    have ih := rising_pw r x h2
    obtain ⟨k1, _⟩ := List.pairwise_cons.mp ih
    refine List.pairwise_cons.mpr ⟨fun z hz => ?_, ih⟩
    rcases List.mem_cons.mp hz with rfl | hz
    · exact h1
    · exact leS_trans h1 (k1 z hz)
theorem sorted_pw : ∀ l : List Str, sortedS l = true → l.Pairwise (fun x y => leS x y = true)
  | [], _ => .nil
  | x :: r, h => rising_pw r x h
theorem sorted_is {l ys : List Str} (p : ys.Perm l) (h : sortedS ys = true) : ys = sortS l :=
  List.Perm.eq_of_pairwise (fun _ _ _ _ h1 h2 => leS_anti h1 h2) (sorted_pw ys h) (sortS_pw l) (p.trans (sortS_perm l).symm)
def sortD : D → Option Sl
  | .lst xs => (strsD xs).bind fun ys => if ys.length < 64 then some (.ow false ((sortS ys).map D.str)) else none
  | _ => none
section
variable {X : Cx} {e : Ev}
theorem call_sortU (C : X.K = e.K) : CallR X (.builtin "sorted") (rSortedS e.K) := by rw [← C]; exact cr_sortedS
theorem cg_sort : CaG e (rSortedS e.K) (one sortD) := ca_one fun G H v d s Q g h hs q => by
  cases d with
  | lst xs =>
    obtain ⟨b, ws, rfl, k1, k2⟩ := h.lst g
    obtain ⟨ys, h1, h2⟩ := Option.bind_eq_some_iff.mp (show (strsD xs).bind (fun ys => if ys.length < 64 then some (Sl.ow false ((sortS ys).map D.str)) else none) = some s from hs)
    rw [strsD_eq h1] at k2
    by_cases c : ys.length < 64
    · rw [if_pos c] at h2
      cases h2
      refine ⟨b, ys, rfl, SqL.of (by rw [← k2.strs]; exact k1), c, fun zs p hp hz np => ?_⟩
      rw [sorted_is hp hz]
      have := Gr.new_lst (e := e) g np (.of_strs (sortS ys))
      exact q _ _ _ this.1 this.2
    · rw [if_neg c] at h2
      cases h2
  | _ => cases hs
end
end L2.WD
namespace L2.WD
open PySem PySem.Spec PySem.Calls PyProof.Rows
theorem CF.kc {X : Cx} {N : List Str} {sc : Scope} {x : Str} (F : CF X N sc) (h : decide (sc.names.lookup x = some .cell) = true) : X.env.kindOf x = some .cell := by
  show X.env.scope.names.lookup x = _
  rw [F.s]
  exact of_decide_eq_true h
end L2.WD
/-! The data layer, part 24: a, b = x, y, own lists among them. -/
namespace L2.WD
open PySem PySem.Spec PySem.Calls PyProof.Rows
section
variable {e : Ev} {Fo G G' H H' : Hp} {σ : St} {ρ ρ' : List Sl} {p : Addr} {us : List V}
/-- what nobody has in a slot goes to the frame -/
theorem Rel.frame2 (R : Rel e Fo G σ H ρ) (hp : H p = some (.lst us)) (gp : G p = none) (hs : ∀ (b : Addr) (i : Nat) (t : Sl), ρ[i]? = some t → t.owned = true → σ[i]? = some (some (V.ref b)) → b ≠ p) : Rel e (upd Fo p (.lst us)) G σ H ρ := by
  refine ⟨R.gh, fun b u hb => ?_, fun b u hb => ?_, ?_, R.ap⟩
  · by_cases c : b = p
    · subst c
      rw [upd_same] at hb
      cases hb
      exact hp
    · rw [upd_ne c] at hb
      exact R.fh b u hb
  · by_cases c : b = p
    · subst c
      exact gp
    · rw [upd_ne c] at hb
      exact R.fg b u hb
  · refine SlRs.of_get R.sl.length fun i u s hi hs' => ?_
    obtain ⟨u', h1, h2⟩ := R.sl.get hs'
    rw [hi] at h1
    cases h1
    cases h2 with
    | no => exact .no
    | fz r => exact .fz r
    | @own b _ r =>
      cases r with
      | ow k1 k2 k3 k4 =>
        have := hs b i _ hs' rfl hi
        exact .own (.ow k1 k2 k3 (by rw [upd_ne this]; exact k4))
      | @oo p1 c1 dx ws fs k1 k2 k3 k4 k5 k6 k7 =>
        have h3 := hs b i _ hs' rfl hi
        have h4 : dx ≠ p := fun z => by
          rw [z, hp] at k2
          cases k2
        exact .own (.oo k1 k2 k3 k4 k5 (by rw [upd_ne h3]; exact k6) (by rw [upd_ne h4]; exact k7))
end
/-- two values, their lists apart -/
def V2 : RlT (Sl × Sl) (List V) := fun e Fo G σ H ρ vs ss => ∃ v w, vs = [v, w] ∧ Val e Fo G σ H ρ v ss.1 ∧ Val e Fo G σ H ρ w ss.2 ∧ (ss.1.owned = true → ss.2.owned = true → v ≠ w)
def pairX (f g : Mo Sl) : Mo (Sl × Sl) := Mo.bind f fun s => Mo.bind g fun t ρ => match s with
  | .fz _ => .ok ρ (s, t)
  | .ow false _ => .ok ρ (s, t)
  | _ => .bad
section
variable {X : Cx} {e : Ev} {W : WX} {a b : Expr} {f g : Mo Sl}
theorem xa_pair (ha : PE X a (tX e W f)) (hb : PE X b (tX e W g)) (hs : starEach [a, b] X.env = (false, eval a X.env) :: starEach [b] X.env := by rfl) (hs2 : starEach [b] X.env = [(false, eval b X.env)] := by rfl) : PA X [a, b] (tG e W V2 (pairX f g)) :=
  (pa_cons ha (pa_cons hb pa_nil hs2) hs).imp fun σ H Q ⟨Fo, G, ρ, R, p⟩ => by
    refine tG.mono (Post.bind R p) fun v H1 ⟨G1, ρ1, s, g1, R1, r1, p1⟩ => ?_
    have r1' : Val e Fo G1 σ H1 ρ1 v s := r1
    cases s with
    | no =>
      refine tG.mono (Post.bind R1 p1) fun w H2 ⟨G2, ρ2, t, g2, R2, r2, p2⟩ => ?_
      exact p2.elim
    | oo m c fs =>
      refine tG.mono (Post.bind R1 p1) fun w H2 ⟨G2, ρ2, t, g2, R2, r2, p2⟩ => ?_
      exact p2.elim
    | fz d =>
      refine tG.mono (Post.bind R1 p1) fun w H2 ⟨G2, ρ2, t, g2, R2, r2, p2⟩ => ?_
      refine p2.here R2 ⟨v, w, rfl, ?_, r2, fun z => by cases z⟩
      cases r1'.1 with
      | fz r => exact Val.fz (r.mono g2)
      | own r => cases r
    | ow m xs =>
      cases m with
      | true =>
        refine tG.mono (Post.bind R1 p1) fun w H2 ⟨G2, ρ2, t, g2, R2, r2, p2⟩ => ?_
        exact p2.elim
      | false =>
        obtain ⟨h1, h2, h3⟩ := r1'
        cases h1 with
        | @own q _ r =>
          cases r with
          | @ow _ us _ k1 k2 k3 k4 =>
            have ap : ∀ (b : Addr) (i : Nat) (t : Sl), ρ1[i]? = some t → t.owned = true → σ[i]? = some (some (V.ref b)) → b ≠ q := fun b i t hi ho hv z => by
              subst z
              exact h3 rfl b i t rfl hi ho hv
            have R1f := R1.frame2 k1 k3 ap
            refine ⟨upd Fo q (.lst us), G1, ρ1, R1f, ?_⟩
            unfold Mo.bind at p1
            cases e2 : g ρ1 with
            | ok ρ2 t =>
              rw [e2] at p1
              intro G2 H2 w g2 kp R2 r2
              have R2u := R2.unframe k4
              have hq : H2 q = some (.lst us) := R2.fh _ _ upd_same
              have gq : G2 q = none := R2.fg _ _ upd_same
              have own2 : ∀ {b : Addr} {s' : Sl}, OwR e (upd Fo q (.lst us)) G2 H2 b s' → b ≠ q := fun {b s'} k z => by
                subst z
                cases k with
                | ow _ _ _ k => rw [upd_same] at k; cases k
                | oo _ _ _ _ _ k _ => rw [upd_same] at k; cases k
              refine p1 G2 H2 [V.ref q, w] g2 kp R2u ⟨_, _, rfl, ⟨.own (.ow hq (k2.mono g2) gq k4), rfl, fun _ b i t' hb hi ho hv => ?_⟩, ⟨?_, r2.2.1, r2.2.2⟩, fun _ ho z => ?_⟩
              · cases hb
                obtain ⟨u', y1, y2⟩ := R2.sl.get hi
                rw [hv] at y1
                cases y1
                cases y2 with
                | no => cases ho
                | fz _ => cases ho
                | own k => exact own2 k rfl
              · have s2 : L2.Same Fo (upd Fo q (.lst us)) := same_upd k4
                cases r2.1 with
                | no => exact .no
                | fz r => exact .fz r
                | own k =>
                  cases k with
                  | ow y1 y2 y3 y4 => exact .own (.ow y1 y2 y3 (s2.free y4))
                  | oo y1 y2 y3 y4 y5 y6 y7 => exact .own (.oo y1 y2 y3 y4 y5 (s2.free y6) (s2.free y7))
              · subst z
                cases r2.1 with
                | no => cases ho
                | fz _ => cases ho
                | own k => exact own2 k rfl
            | exc ρ2 c fs =>
              rw [e2] at p1
              exact fun G2 H2 cls od g2 kp R2 x => p1 G2 H2 cls od g2 kp (R2.unframe k4) x
            | bad => rw [e2] at p1; exact p1.elim
/-- a, b = x, y -/
def parX (i j : Nat) (f : Mo (Sl × Sl)) : So := bindS f fun ss ρ => if free2 ρ i j = true then .nx ((ρ.set i ss.1).set j ss.2) else .bad
theorem free_setS {ρ : List Sl} {i j : Nat} {s : Sl} (m : s.mine = false) (h : free ρ j = true) : free (ρ.set i s) j = true := by
  unfold free at *
  by_cases q : i = j
  · subst q
    cases k : ρ[i]? with
    | none => rw [k] at h; cases h
    | some t =>
      have hl : i < ρ.length := (List.getElem?_eq_some_iff.mp k).1
      simp [List.getElem?_set, hl, m]
  · rw [List.getElem?_set_ne q]
    exact h
theorem Val.put {Fo G H : Hp} {σ : St} {ρ : List Sl} {i : Nat} {v w : V} {s t : Sl} (r2 : Val e Fo G σ H ρ w t) (ne : s.owned = true → t.owned = true → v ≠ w) : Val e Fo G (σ.set i (some v)) H (ρ.set i s) w t := by
  refine ⟨r2.1, r2.2.1, fun ho b k u hb hk hu hv => ?_⟩
  by_cases c : i = k
  · subst c
    have hl : i < ρ.length := by
      have := (List.getElem?_eq_some_iff.mp hk).1
      simpa using this
    have hl2 : i < σ.length := by
      have := (List.getElem?_eq_some_iff.mp hv).1
      simpa using this
    rw [List.getElem?_set_self hl] at hk
    rw [List.getElem?_set_self hl2] at hv
    cases hk
    cases hv
    exact ne hu ho hb.symm
  · rw [List.getElem?_set_ne c] at hk hv
    exact r2.2.2 ho b k u hb hk hu hv
variable {N : List Str} {sc : Scope} {x y : Str} {i j : Nat} {px py pt pos : Pos} {kt k2 : Nat} {pt2 : Pos} {f2 : Mo (Sl × Sl)}
theorem ss_parX (C : EC X e W) (cm : X.calm = true) (F : CF X N sc) (hb : X.env.blockKind = .function) (ha : PA X [a, b] (tG e W V2 f2))
    (h : (stB N sc i x && (stB N sc j y && (decide (sc.names.lookup x = some .local) && (decide (sc.names.lookup y = some .local) && (!(i == j) && par2B px py x y a b))))) = true)
    (hs : swapsWithSole [.Tuple [.Name x px, .Name y py] kt pt] (.Tuple [a, b] k2 pt2) pos.line X.env = pure false := by rfl) :
    PS X (.Assign [.Tuple [.Name x px, .Name y py] kt pt] (.Tuple [a, b] k2 pt2) pos) (tS e W (parX i j f2)) := by
  obtain ⟨h1, h⟩ := He.ba h
  obtain ⟨h2, h⟩ := He.ba h
  obtain ⟨h3, h⟩ := He.ba h
  obtain ⟨h4, h⟩ := He.ba h
  obtain ⟨h5, h6⟩ := He.ba h
  have lx := F.ll (of_decide_eq_true h3)
  have ly := F.ll (of_decide_eq_true h4)
  refine (ps_par cm C.nd (F.ix (of_decide_eq_true (He.ba h1).1)) (F.ix (of_decide_eq_true (He.ba h2).1)) (by simpa using h5) lx ly ha (sw2 hb lx ly h6) hs).imp fun En σ H ⟨Fo, G, ρ, R, p⟩ => ?_
  refine tG.mono (PostS.bind R p) fun vs H1 ⟨G1, ρ1, ss, g1, R1, ⟨v, w, ev, r1, r2, ne⟩, _, p1⟩ => ?_
  subst ev
  refine ⟨v, w, rfl, ?_⟩
  have p1 : PostS e W Fo G1 σ ρ1 (if (free ρ1 i && free ρ1 j) = true then Out.nx ((ρ1.set i ss.1).set j ss.2) else Out.bad) En := p1
  by_cases c1 : (free ρ1 i && free ρ1 j) = true
  · rw [if_pos c1] at p1
    obtain ⟨c1, c2⟩ := He.ba c1
    exact p1 G1 _ H1 (L2.Same.refl _) ((free_keep c1).trans (free_keep (free_setS r1.2.1 c2))) ((R1.put r1).put (r2.put ne))
  · rw [if_neg c1] at p1
    exact p1.elim
/-- a name's things as a value -/
def nmX (i : Nat) : Mo Sl := valO (frO i)
theorem xx_nm {x : Str} {pos : Pos} (h : PE X (.Name x pos) (tVar i)) : PE X (.Name x pos) (tX e W (nmX i)) := xx_of (xo_fr h)
end
end L2.WD
/-! The data layer, part 25: a call whose first argument is an own list that has no name. -/
namespace L2.WD
open PySem PySem.Spec PySem.Calls PyProof.Rows
def VA : RlT (Sl × List Ar) (List V) := fun e Fo G σ H ρ vs sa => ∃ v ws, vs = v :: ws ∧ Val e Fo G σ H ρ v sa.1 ∧ ArRs e G σ ws sa.2
def headX (f : Mo Sl) (g : Mo (List Ar)) : Mo (Sl × List Ar) := Mo.bind f fun s => Mo.bind g fun as ρ => match s with
  | .fz _ => .ok ρ (s, as)
  | .ow false _ => .ok ρ (s, as)
  | _ => .bad
section
variable {X : Cx} {e : Ev} {W : WX} {a : Expr} {es : List Expr} {f : Mo Sl} {g : Mo (List Ar)}
theorem xa_head (ha : PE X a (tX e W f)) (hb : PA X es (tA e W g)) (hs : starEach (a :: es) X.env = (false, eval a X.env) :: starEach es X.env := by rfl) : PA X (a :: es) (tG e W VA (headX f g)) :=
  (pa_cons ha hb hs).imp fun σ H Q ⟨Fo, G, ρ, R, p⟩ => by
    refine tG.mono (Post.bind R p) fun v H1 ⟨G1, ρ1, s, g1, R1, r1, p1⟩ => ?_
    have r1' : Val e Fo G1 σ H1 ρ1 v s := r1
    cases s with
    | no =>
      refine tG.mono (Post.bind R1 p1) fun w H2 ⟨G2, ρ2, t, g2, R2, r2, p2⟩ => ?_
      exact p2.elim
    | oo m c fs =>
      refine tG.mono (Post.bind R1 p1) fun w H2 ⟨G2, ρ2, t, g2, R2, r2, p2⟩ => ?_
      exact p2.elim
    | fz d =>
      refine tG.mono (Post.bind R1 p1) fun w H2 ⟨G2, ρ2, t, g2, R2, r2, p2⟩ => ?_
      refine p2.here R2 ⟨v, w, rfl, ?_, r2⟩
      cases r1'.1 with
      | fz r => exact Val.fz (r.mono g2)
      | own r => cases r
    | ow m xs =>
      cases m with
      | true =>
        refine tG.mono (Post.bind R1 p1) fun w H2 ⟨G2, ρ2, t, g2, R2, r2, p2⟩ => ?_
        exact p2.elim
      | false =>
        obtain ⟨h1, h2, h3⟩ := r1'
        cases h1 with
        | @own q _ r =>
          cases r with
          | @ow _ us _ k1 k2 k3 k4 =>
            have ap : ∀ (b : Addr) (i : Nat) (t : Sl), ρ1[i]? = some t → t.owned = true → σ[i]? = some (some (V.ref b)) → b ≠ q := fun b i t hi ho hv z => by
              subst z
              exact h3 rfl b i t rfl hi ho hv
            have R1f := R1.frame2 k1 k3 ap
            refine ⟨upd Fo q (.lst us), G1, ρ1, R1f, ?_⟩
            unfold Mo.bind at p1
            cases e2 : g ρ1 with
            | ok ρ2 t =>
              rw [e2] at p1
              intro G2 H2 w g2 kp R2 r2
              have R2u := R2.unframe k4
              have hq : H2 q = some (.lst us) := R2.fh _ _ upd_same
              have gq : G2 q = none := R2.fg _ _ upd_same
              have own2 : ∀ {b : Addr} {s' : Sl}, OwR e (upd Fo q (.lst us)) G2 H2 b s' → b ≠ q := fun {b s'} k z => by
                subst z
                cases k with
                | ow _ _ _ k => rw [upd_same] at k; cases k
                | oo _ _ _ _ _ k _ => rw [upd_same] at k; cases k
              refine p1 G2 H2 (V.ref q :: w) g2 kp R2u ⟨_, _, rfl, ⟨.own (.ow hq (k2.mono g2) gq k4), rfl, fun _ b i t' hb hi ho hv => ?_⟩, r2⟩
              cases hb
              obtain ⟨u', y1, y2⟩ := R2.sl.get hi
              rw [hv] at y1
              cases y1
              cases y2 with
              | no => cases ho
              | fz _ => cases ho
              | own k => exact own2 k rfl
            | exc ρ2 c fs =>
              rw [e2] at p1
              exact fun G2 H2 cls od g2 kp R2 x => p1 G2 H2 cls od g2 kp (R2.unframe k4) x
            | bad => rw [e2] at p1; exact p1.elim
def popR (n : Nat) (r : Re Sl) : Re Sl := match r with
  | .ok ρ s => .ok (ρ.take n) s
  | .exc ρ c fs => .exc (ρ.take n) c fs
  | .bad => .bad
def callP (F : Mo Sl) (more : List D) (fx : Mo Sl) (fa : Mo (List Ar)) : Mo Sl := Mo.bind (headX fx fa) fun sa ρ => popR ρ.length (appF F more (.sl ρ.length :: sa.2) (ρ ++ [sa.1]))
theorem headX_len {fx : Mo Sl} {fa : Mo (List Ar)} {n : Nat} (h : LenA fa n) {ρ ρ' : List Sl} {sa : Sl × List Ar} (q : headX fx fa ρ = .ok ρ' sa) : sa.2.length = n := by
  unfold headX Mo.bind at q
  cases e1 : fx ρ with
  | ok ρ1 s =>
    rw [e1] at q
    simp only at q
    cases e2 : fa ρ1 with
    | ok ρ2 as =>
      rw [e2] at q
      have := h _ _ _ e2
      cases s with
      | fz d => cases q; exact this
      | ow m xs => cases m with
        | false => cases q; exact this
        | true => cases q
      | _ => cases q
    | exc _ _ _ => rw [e2] at q; cases q
    | bad => rw [e2] at q; cases q
  | exc _ _ _ => rw [e1] at q; cases q
  | bad => rw [e1] at q; cases q
theorem callP_core {F : Mo Sl} {more : List D} {fx : Mo Sl} {fa : Mo (List Ar)} {dvs : List V} {n : Nat} {σ : St} {H : Hp} {Q : VK} (hd : ∀ G, DRs e G dvs more) (hm : LenA fa n) (h : tX e W (callP F more fx fa) σ H Q) :
    tCallSD (spD e (n + more.length + 1) F) dvs (WE W) (tG e W VA (headX fx fa)) σ H Q := by
  obtain ⟨Fo, G0, ρ, R, p⟩ := h
  refine ⟨Fo, G0, ρ, R, ?_⟩
  unfold callP Mo.bind at p
  cases q : headX fx fa ρ with
  | exc ρ2 c fs => rw [q] at p; exact p
  | bad => rw [q] at p; exact p
  | ok ρ1 sa =>
    rw [q] at p
    intro G1 H1 vs g1 k1 R1 ⟨x, ws, ev, rv, ra0⟩
    subst ev
    have p1 : Post e W ValL Fo G1 σ ρ1 (popR ρ1.length (appF F more (.sl ρ1.length :: sa.2) (ρ1 ++ [sa.1]))) Q := p.from g1 k1
    have R3 := R1.push rv
    have lσ : σ.length = ρ1.length := R1.len
    have ra : ArRs e G1 (σ ++ [some x]) (x :: ws) (.sl ρ1.length :: sa.2) := .cons (show (σ ++ [some x])[ρ1.length]? = _ by rw [← lσ]; simp) (ArRs.push (vs := []) ra0)
    have key : Post e (fun cls od _ H => W cls od σ H) ValL Fo G1 (σ ++ [some x]) (ρ1 ++ [sa.1]) (appF F more (.sl ρ1.length :: sa.2) (ρ1 ++ [sa.1])) Q := by
      cases q2 : appF F more (.sl ρ1.length :: sa.2) (ρ1 ++ [sa.1]) with
      | bad => rw [q2] at p1; exact p1
      | exc ρ3 c' fs =>
        rw [q2] at p1
        intro G3 H3 cls od g3 k3 R4 xx
        refine p1 G3 H3 cls od g3 (keep_push k3) ?_ xx
        have := R4.pop
        rw [lσ] at this
        exact this
      | ok ρ3 s =>
        rw [q2] at p1
        intro G3 H3 v g3 k3 R4 hv
        have rp := R4.pop
        rw [lσ] at rp
        refine p1 G3 H3 v g3 (keep_push k3) rp ⟨hv.1, hv.2.1, fun ho b i t eb hi ht hs => ?_⟩
        have hi' : ρ3[i]? = some t := by
          by_cases c : i < ρ1.length
          · rw [List.getElem?_take_of_lt c] at hi; exact hi
          · rw [List.getElem?_eq_none (by simp; omega)] at hi; cases hi
        have c : i < σ.length := by
          by_cases c : i < σ.length
          · exact c
          · rw [List.getElem?_eq_none (by omega)] at hs; cases hs
        exact hv.2.2 ho b i t eb hi' ht (by rw [List.getElem?_append_left c]; exact hs)
    have := app_core (W := fun cls od _ H => W cls od σ H) (m := n + more.length + 1) R3 ra (hd G1) (by rw [List.length_cons, headX_len hm q]; omega) key
    exact this
variable {N : List Str} {sc : Scope} {x : Str} {pos : Pos}
theorem xcp {P : Program} {w : World} {base : Heap} {d : He.DefD} {k k0 : Nat} {ps : List Str} {Fn : Mo Sl} {fd : FuncData} {p : Pos} {dvs : List V} {more : List D} {fx : Mo Sl} {fa : Mo (List Ar)} {n : Nat}
    (C : EC X e W) (T : At X P w base) (r : Room k0 X.A) (F : CF X N sc) (O : Ok P w e base d k ps Fn fd) (b : ∃ ds, Vals dvs ds ∧ Binds e.K fd ps ds) (hm : e.mg x = some (.ref (He.fAd e.K d.at_))) (hk : k ≤ k0) (hg : glB sc x = true) (hdd : ∀ G, DRs e G dvs more)
    (ha : PA X (a :: es) (tG e W VA (headX fx fa))) (hn : LenA fa n) (hl : n + more.length + 1 = ps.length) (he : starEach (a :: es) X.env = (false, eval a X.env) :: starEach es X.env := by rfl) (hpl : (backTo pos (starEach es X.env)).any (·.1) = false := by rfl) :
    PE X (.Call (.Name x p) (a :: es) [] pos) (tX e W (callP Fn more fx fa)) := by
  obtain ⟨ds, hv, hb⟩ := b
  have Fk := O.at C T
  rw [← hl] at Fk
  exact (pe_callSD Fk (r.mono hk) (F.g hg) (C.gm hm) (by rw [C.K]; exact O.fd.kp) (by rw [C.K]; exact hb) hv (fun σ => passAt C.tk σ) ha (dbg hg) he hpl).imp fun _ _ _ h => callP_core hdd hn h
end
end L2.WD
/-! The data layer, part 26: a, b = x, y where a name is captured, or the values stand written out. -/
namespace L2.WD
open PySem PySem.Spec PySem.Calls PyProof.Rows
section
variable {X : Cx} {e : Ev} {W : WX} {a b : Expr}
variable {N : List Str} {sc : Scope} {x y : Str} {i j : Nat} {px py pt pos : Pos} {kt k2 : Nat} {pt2 : Pos} {f2 : Mo (Sl × Sl)}
theorem ss_parXc (C : EC X e W) (cm : X.calm = true) (F : CF X N sc) (hf : ∀ x, X.fn x = true) (ha : PA X [a, b] (tG e W V2 f2)) (h : (stB N sc i x && (stB N sc j y && !(i == j))) = true)
    (hw : swappedStores [.Tuple [.Name x px, .Name y py] kt pt] (.Tuple [a, b] k2 pt2) X.env = pure none)
    (hs : swapsWithSole [.Tuple [.Name x px, .Name y py] kt pt] (.Tuple [a, b] k2 pt2) pos.line X.env = pure false := by rfl) :
    PS X (.Assign [.Tuple [.Name x px, .Name y py] kt pt] (.Tuple [a, b] k2 pt2) pos) (tS e W (parX i j f2)) := by
  obtain ⟨h1, h⟩ := He.ba h
  obtain ⟨h2, h5⟩ := He.ba h
  obtain ⟨h1, l1⟩ := He.ba h1
  obtain ⟨h2, l2⟩ := He.ba h2
  refine (ps_asg (pe_tup ha) (pg_tup cm (pgs_cons (pg_name C.nd (F.ix (of_decide_eq_true h1)) (F.lo (locB_ok l1)) (.inl (hf _))) (pgs_cons (pg_name C.nd (F.ix (of_decide_eq_true h2)) (F.lo (locB_ok l2)) (.inl (hf _))) pgs_nil)) (n := 2)) hs hw).imp fun En σ H ⟨Fo, G, ρ, R, p⟩ => ?_
  refine tG.mono (PostS.bind R p) fun vs H1 ⟨G1, ρ1, ss, g1, R1, ⟨v, w, ev, r1, r2, ne⟩, _, p1⟩ => ?_
  subst ev
  refine ⟨by show 2 ≤ sizeLine; decide, fun q nq => ⟨q, [v, w], rfl, SqT.of upd_same, rfl, v, [w], rfl, w, [], rfl, rfl, ?_⟩⟩
  have p1 : PostS e W Fo G1 σ ρ1 (if (free ρ1 i && free ρ1 j) = true then Out.nx ((ρ1.set i ss.1).set j ss.2) else Out.bad) En := p1
  by_cases c1 : (free ρ1 i && free ρ1 j) = true
  · rw [if_pos c1] at p1
    obtain ⟨c1, c2⟩ := He.ba c1
    exact p1 G1 _ _ (L2.Same.refl _) ((free_keep c1).trans (free_keep (free_setS r1.2.1 c2))) (((R1.put r1).put (r2.put ne)).lay nq)
  · rw [if_neg c1] at p1
    exact p1.elim
end
end L2.WD
namespace L2.WD
open PySem PySem.Spec PySem.Calls PyProof.Rows
/-! ### t == () -/
def rEq0 (K : PySem.W.Frag) : R2 := fun x y H Q => ∃ a b xs, x = .ref a ∧ y = .ref b ∧ SqT K H a xs ∧ SqT K H b [] ∧ Q (.bl xs.isEmpty) H
def eq0D : D → D → Option Sl
  | .tup xs, .tup [] => some (.fz (.bl xs.isEmpty))
  | _, _ => none
section
variable {X : Cx} {e : Ev}
theorem op_eq0' (hu : X.A.units + 64 < cLine) : OpR X (compareOp .Eq) (rEq0 X.K) := by
  intro pins s σ H x y v u Q I rx ry h
  obtain ⟨a, b, xs, rfl, rfl, h1, h2, q⟩ := h
  cases rx
  cases ry
  obtain ⟨its, r1, t1, _⟩ := I.tuple h1
  obtain ⟨its2, r2, t2, _⟩ := I.tuple h2
  cases r2
  refine PySem.SeqAt.eq_tupleAt (e := fun _ => true) t1 t2 (by omega) (fun j h1 h2 => absurd h2 (by simp)) ⟨.bl xs.isEmpty, H, I, ?_, q⟩
  have hl := r1.length
  cases its with
  | nil => cases xs with
    | nil => rfl
    | cons => cases hl
  | cons => cases xs with
    | nil => cases hl
    | cons => rfl
theorem op_eq0 (C : X.K = e.K) (hu : X.A.units + 64 < cLine) : OpR X (compareOp .Eq) (rEq0 e.K) := by rw [← C]; exact op_eq0' hu
theorem og_eq0 : OpG e (rEq0 e.K) eq0D := by
  intro G H x y d1 d2 s Q g h1 h2 hs q
  cases d1 with
  | tup xs =>
    cases d2 with
    | tup ys =>
      cases ys with
      | nil =>
        obtain ⟨b, ws, rfl, k1, k2⟩ := h1.tup g
        obtain ⟨b', ws', rfl, k3, k4⟩ := h2.tup g
        cases k4
        cases hs
        refine ⟨b, b', ws, rfl, rfl, k1, k3, ?_⟩
        rw [k2.isEmpty]
        exact q G H _ (Gr.refl g) (.bl _)
      | cons => cases hs
    | _ => cases hs
  | _ => cases d2 <;> cases hs
end
end L2.WD
namespace L2.WD
open PySem PySem.Spec PySem.Calls PyProof.Rows
/-! ### ==, != of two texts, two numbers, or of things that are laid out -/
def eq2D (neg : Bool) : D → D → Option Sl
  | .str a, .str b => blS (if neg then !decide (a = b) else decide (a = b))
  | .int a, .int b => blS (if neg then !decide (a = b) else decide (a = b))
  | d1, d2 => eqD neg d1 d2
section
variable {X : Cx} {e : Ev}
theorem dec_V {α : Type} {f : α → V} (hf : ∀ a b, f a = f b → a = b) [DecidableEq α] (a b : α) : decide (f a = f b) = decide (a = b) := by
  by_cases c : a = b
  · subst c; simp
  · rw [decide_eq_false c, decide_eq_false fun z => c (hf a b z)]
def rEq2 (K : PySem.W.Frag) : R2 := ror rEq (rEqD K)
def rNe2 (K : PySem.W.Frag) : R2 := ror rNe (rNeD K)
theorem op_eq2 (C : X.K = e.K) (hu : X.A.units + 64 < cLine) : OpR X (compareOp .Eq) (rEq2 e.K) := opr_or op_eq (op_eqU C hu)
theorem op_ne2 (C : X.K = e.K) (hu : X.A.units + 64 < cLine) : OpR X (compareOp .NotEq) (rNe2 e.K) := opr_or op_ne (op_neU C hu)
theorem og_eq2 : OpG e (rEq2 e.K) (eq2D false) := by
  intro G H x y d1 d2 s Q g h1 h2 hs q
  have other : eqD false d1 d2 = some s → rEq2 e.K x y H Q := fun hs => .inr (og_eq G H x y _ _ s Q g h1 h2 hs q)
  cases d1 with
  | str a =>
    cases d2 with
    | str b =>
      cases h1.str
      cases h2.str
      cases hs
      refine .inl ⟨rfl, ?_⟩
      rw [dec_V (fun _ _ z => V.str.inj z)]
      exact q G H _ (Gr.refl g) (.bl _)
    | _ => exact other hs
  | int a =>
    cases d2 with
    | int b =>
      cases h1.int
      cases h2.int
      cases hs
      refine .inl ⟨rfl, ?_⟩
      rw [dec_V (fun _ _ z => V.int.inj z)]
      exact q G H _ (Gr.refl g) (.bl _)
    | _ => exact other hs
  | _ => cases d2 <;> exact other hs
theorem og_ne2 : OpG e (rNe2 e.K) (eq2D true) := by
  intro G H x y d1 d2 s Q g h1 h2 hs q
  have other : eqD true d1 d2 = some s → rNe2 e.K x y H Q := fun hs => .inr (og_ne G H x y _ _ s Q g h1 h2 hs q)
  cases d1 with
  | str a =>
    cases d2 with
    | str b =>
      cases h1.str
      cases h2.str
      cases hs
      refine .inl ⟨rfl, ?_⟩
      rw [dec_V (fun _ _ z => V.str.inj z)]
      exact q G H _ (Gr.refl g) (.bl _)
    | _ => exact other hs
  | int a =>
    cases d2 with
    | int b =>
      cases h1.int
      cases h2.int
      cases hs
      refine .inl ⟨rfl, ?_⟩
      rw [dec_V (fun _ _ z => V.int.inj z)]
      exact q G H _ (Gr.refl g) (.bl _)
    | _ => exact other hs
  | _ => cases d2 <;> exact other hs
end
end L2.WD
/-! The data layer, part 27: plain things, more plain facts. -/
namespace L2.WD
open PySem PySem.Spec PySem.Calls PyProof.Rows
/-- plain things: texts and rows of at most L -/
inductive PD (L : Nat) : D → Prop
  | non : PD L .non
  | bl (b : Bool) : PD L (.bl b)
  | int (i : Int) : PD L (.int i)
  | str {z : Str} : z.length ≤ L → PD L (.str z)
  | tup {ds : List D} : ds.length ≤ L → (∀ d ∈ ds, PD L d) → PD L (.tup ds)
  | lst {ds : List D} : ds.length ≤ L → (∀ d ∈ ds, PD L d) → PD L (.lst ds)
  | dic : PD L (.dic [])
theorem PD.mono {L M : Nat} (h : L ≤ M) : ∀ {d : D}, PD L d → PD M d := by
  intro d p
  induction p with
  | non => exact .non
  | bl b => exact .bl b
  | int i => exact .int i
  | str k => exact .str (Nat.le_trans k h)
  | tup k _ ih => exact .tup (Nat.le_trans k h) ih
  | lst k _ ih => exact .lst (Nat.le_trans k h) ih
  | dic => exact .dic
theorem tup_ix0 {x : D} {ps : List D} : ixD (.tup (x :: ps)) (.int 0) = some (.fz x) := by
  show (L2.atI (x :: ps) 0).map Sl.fz = _
  have : L2.atI (x :: ps) 0 = some x := by
    unfold L2.atI ixN
    rw [if_pos (Int.le_refl 0), if_pos (by simp only [List.length_cons]; omega)]
    rfl
  rw [this]
  rfl
theorem tup_ix1 {x y : D} {ps : List D} : ixD (.tup (x :: y :: ps)) (.int 1) = some (.fz y) := by
  show (L2.atI (x :: y :: ps) 1).map Sl.fz = _
  have : L2.atI (x :: y :: ps) 1 = some y := by
    unfold L2.atI ixN
    rw [if_pos (by decide), if_pos (by simp only [List.length_cons]; omega)]
    rfl
  rw [this]
  rfl
theorem tup_tail {x : D} {ps : List D} : slD (some 1) none (.tup (x :: ps)) = some (.fz (.tup ps)) := by
  show some (Sl.fz (.tup (L2.WD.cutD (x :: ps) (some 1) none))) = _
  have : L2.WD.cutD (x :: ps) (some 1) none = ps := by
    unfold L2.WD.cutD
    have h1 : HT.sIx (x :: ps).length 0 (some 1) = 1 := by
      have := HT.sIx_nat (x :: ps).length 0 1
      have h : HT.sIx (x :: ps).length 0 (some ((1 : Nat) : Int)) = min 1 (x :: ps).length := this
      rw [List.length_cons] at h
      exact h.trans (by omega)
    have h2 : HT.sIx (x :: ps).length (x :: ps).length none = (x :: ps).length := rfl
    rw [h1, h2]
    simp
  rw [this]
theorem lenD_tup {ds : List D} : lenD (.tup ds) = some (.fz (.int ds.length)) := rfl
theorem lenD_lst {ds : List D} : lenD (.lst ds) = some (.fz (.int ds.length)) := rfl
theorem eq2_str {a b : Str} : eq2D false (.str a) (.str b) = some (.fz (.bl (decide (a = b)))) := rfl
theorem eq2_int {a b : Int} : eq2D false (.int a) (.int b) = some (.fz (.bl (decide (a = b)))) := rfl
theorem ne2_str {a b : Str} : eq2D true (.str a) (.str b) = some (.fz (.bl (!decide (a = b)))) := rfl
theorem ne2_int {a b : Int} : eq2D true (.int a) (.int b) = some (.fz (.bl (!decide (a = b)))) := rfl
theorem eq0_cons {x : D} {ps : List D} : eq0D (.tup (x :: ps)) (.tup []) = some (.fz (.bl false)) := rfl
/-- i in (a, b), of numbers -/
theorem in_ints {i a b : Int} : inD false (.int i) (.tup [.int a, .int b]) = some (.fz (.bl (decide (i = a) || decide (i = b)))) := by
  show blS (inV (.int i) [.int a, .int b]) = _
  show some (Sl.fz (.bl (inV (.int i) [.int a, .int b]))) = _
  congr 3
  show (a == i || (b == i || false)) = _
  rw [Bool.or_false]
  congr 1 <;> (rw [Bool.eq_iff_iff, beq_iff_eq, decide_eq_true_eq]; exact eq_comm)
theorem inV_strs {z : Str} (ws : List Str) : inV (.str z) (ws.map V.str) = ws.contains z := by
  unfold inV
  induction ws with
  | nil => rfl
  | cons w ws ih =>
    rw [List.map_cons, List.any_cons, ih, List.contains_cons]
    congr 1
    show (w == z) = (z == w)
    rw [Bool.eq_iff_iff, beq_iff_eq, beq_iff_eq]
    exact eq_comm
theorem flats_strs (ws : List Str) : flatsD (ws.map D.str) = some (ws.map V.str) := by
  induction ws with
  | nil => rfl
  | cons w ws ih =>
    show (match flatD (.str w), flatsD (ws.map D.str) with | some v, some vs => some (v :: vs) | _, _ => none) = _
    rw [ih]
    rfl
theorem in_lst {z : Str} (ws : List Str) (neg : Bool) : inD neg (.str z) (.lst (ws.map D.str)) = some (.fz (.bl (if neg then !ws.contains z else ws.contains z))) := by
  show inSeq neg (.str z) (ws.map D.str) = _
  unfold inSeq
  rw [flats_strs]
  show blS (if neg = true then !inV (.str z) (ws.map V.str) else inV (.str z) (ws.map V.str)) = _
  rw [inV_strs]
  rfl
theorem in_tup {z : Str} (ws : List Str) (neg : Bool) : inD neg (.str z) (.tup (ws.map D.str)) = some (.fz (.bl (if neg then !ws.contains z else ws.contains z))) := in_lst ws neg
theorem allD_map {f : D → Bool} (ds : List D) : allD (fun bs => bs.all id) (.lst (ds.map fun d => .bl (f d))) = some (.fz (.bl (ds.all f))) := by
  have e : (ds.map fun d => D.bl (f d)) = (ds.map f).map D.bl := by rw [List.map_map]; rfl
  rw [e]
  show (blsD ((ds.map f).map D.bl)).bind _ = _
  rw [blsD_map]
  show some (Sl.fz (.bl ((ds.map f).all id))) = _
  rw [List.all_map]
  rfl
theorem sumD_map {f : D → Int} (ds : List D) : sumD (.lst (ds.map fun d => .int (f d))) = some (.fz (.int (ds.map f).sum)) := by
  have e : (ds.map fun d => D.int (f d)) = (ds.map f).map D.int := by rw [List.map_map]; rfl
  rw [e]
  show (intsD ((ds.map f).map D.int)).bind _ = _
  rw [intsD_map]
  rfl
theorem chInt {fa fb fc : Mo Ar} {ρ : List Sl} {a b c : Int} (h1 : fa ρ = .ok ρ (.vl (.int a))) (h2 : fb ρ = .ok ρ (.vl (.int b))) (h3 : fc ρ = .ok ρ (.vl (.int c))) : chX leD leD fa fb fc ρ = .ok ρ (.fz (.bl (decide (a ≤ b) && decide (b ≤ c)))) := by
  rw [ap_chX, h1, bR_ok, h2, bR_ok, con_vl, oR_some, con_vl, oR_some]
  show oR (some (Sl.fz (.bl (decide (a ≤ b))))) _ _ = _
  rw [oR_some]
  show oR (some (decide (a ≤ b))) _ _ = _
  rw [oR_some]
  cases q : decide (a ≤ b) with
  | true =>
    rw [cR_true, h3, bR_ok, con_vl, oR_some, con_vl, oR_some]
    rfl
  | false =>
    rw [cR_false]
    rfl
end L2.WD
/-! The data layer, part 28: texts by their letters, comprehensions that change the slots, that choose. -/
namespace L2.WD
open PySem PySem.Spec PySem.Calls PyProof.Rows
/-- a text's letters -/
abbrev ltr (z : Str) : List Nat := z.cps.toList
theorem ltr_app (a b : Str) : ltr (a ++ b) = ltr a ++ ltr b := by
  unfold ltr
  rw [PySem.Str.cps_append, Array.toList_append]
theorem ltr_len (z : Str) : (ltr z).length = z.length := rfl
theorem ltr_ext {a b : Str} (h : ltr a = ltr b) : a = b := by
  cases a; cases b
  unfold ltr at h
  congr 1
  exact Array.ext' h
theorem ltr_cut (z : Str) (k : Nat) : ltr (cutS z none (some k)) = (ltr z).take k := by
  show ((z.cps.toList.drop (HT.sIx z.length 0 none)).take (HT.sIx z.length z.length (some k) - HT.sIx z.length 0 none)) = _
  rw [HT.sIx_nat, HT.sIx_none, Nat.sub_zero, List.drop_zero]
  have : z.length = z.cps.toList.length := rfl
  rw [this, List.take_eq_take_iff]
  omega
theorem ltr_join (l : List Nat) : ltr (Txt.join "" (l.map fun c => (⟨#[c]⟩ : Str))) = l := by
  rw [TL.join_eq]
  have e := TL.tl_join "" (l.map fun c => (⟨#[c]⟩ : Str))
  have : ∀ l : List (List Nat), TL.joinL [] l = l.flatten := by
    intro l
    induction l with
    | nil => rfl
    | cons p r ih =>
      cases r with
      | nil => simp [TL.joinL]
      | cons q r =>
        show p ++ ([] ++ TL.joinL [] (q :: r)) = _
        rw [List.nil_append, ih, List.flatten_cons]
        rfl
  have e2 : TL.tl (Str.join "" (l.map fun c => (⟨#[c]⟩ : Str))) = ((l.map fun c => (⟨#[c]⟩ : Str)).map TL.tl).flatten := e.trans (this _)
  show TL.tl _ = _
  rw [e2, List.map_map]
  induction l with
  | nil => rfl
  | cons c l ih => rw [List.map_cons, List.flatten_cons]; rw [ih (TL.tl_join _ _) ((TL.tl_join _ _).trans (this _))]; rfl
/-- a comprehension whose range or list changes the slots -/
theorem compX_inv2 {own : List Nat} {t : D → So} {el : Mo D} {ρ ρ0 : List Sl} {f : Mo (List D)} {ds : List D} (I : List Sl → Prop) (J : D → Prop) (hf : f ρ = .ok ρ0 ds) (hl : ds.length < sizeLine) (hp : own.all (plainSl ρ0) = true) (h0 : I ρ0)
    (h : ∀ d ∈ ds, ∀ ρ, I ρ → ∃ ρ1 ρ2 y, t d (wipeD ρ own) = .nx ρ1 ∧ el ρ1 = .ok ρ2 y ∧ I (mixD ρ ρ2 own) ∧ J y) :
    ∃ ρ' ys, compX own f t yesT el ρ = .ok ρ' (.ow false ys) ∧ I ρ' ∧ ys.length = ds.length ∧ ∀ y ∈ ys, J y := by
  obtain ⟨ρ', ys, e, r⟩ := compL_inv I J ds ρ0 h0 h
  exact ⟨ρ', ys, by rw [ap_compX, hf, bR_ok, decide_eq_true hl, hp, Bool.and_self, cR_true, e, kR_ok], r⟩
theorem compX_map2 {own : List Nat} {t : D → So} {el : Mo D} {ρ ρ0 : List Sl} {f : Mo (List D)} {ds : List D} (g : D → D) (hf : f ρ = .ok ρ0 ds) (hl : ds.length < sizeLine) (hp : own.all (plainSl ρ0) = true) (h : ∀ d ∈ ds, ∃ ρ1 ρ2, t d (wipeD ρ0 own) = .nx ρ1 ∧ el ρ1 = .ok ρ2 (g d) ∧ mixD ρ0 ρ2 own = ρ0) :
    compX own f t yesT el ρ = .ok ρ0 (.ow false (ds.map g)) := by
  rw [ap_compX, hf, bR_ok, decide_eq_true hl, hp, Bool.and_self, cR_true, compL_map g ds h, kR_ok]
theorem compL_pick {own : List Nat} {t : D → So} {tt : Mo Bool} {el : Mo D} {ρ : List Sl} (g : D → Bool) (f : D → D) : ∀ ds : List D, (∀ d ∈ ds, ∃ ρ1, t d (wipeD ρ own) = .nx ρ1 ∧ tt ρ1 = .ok ρ1 (g d) ∧ (g d = true → el ρ1 = .ok ρ1 (f d)) ∧ mixD ρ ρ1 own = ρ) → compL own t tt el ds ρ = .ok ρ ((ds.filter g).map f)
  | [], _ => rfl
  | d :: ds, h => by
    obtain ⟨ρ1, h1, h2, h3, h4⟩ := h d (by simp)
    have ih := compL_pick g f ds fun x hx => h x (by simp [hx])
    rw [compL_cons, h1, gS_nx, h2, kR_ok]
    cases q : g d with
    | true => rw [cR_true, h3 q, kR_ok, h4, ih, kR_ok, List.filter_cons_of_pos q, List.map_cons]
    | false => rw [cR_false, h4, ih, List.filter_cons_of_neg (by rw [q]; decide)]
theorem compX_pick {own : List Nat} {t : D → So} {tt : Mo Bool} {el : Mo D} {ρ ρ0 : List Sl} {f : Mo (List D)} {ds : List D} (g : D → Bool) (k : D → D) (hf : f ρ = .ok ρ0 ds) (hl : ds.length < sizeLine) (hp : own.all (plainSl ρ0) = true) (h : ∀ d ∈ ds, ∃ ρ1, t d (wipeD ρ0 own) = .nx ρ1 ∧ tt ρ1 = .ok ρ1 (g d) ∧ (g d = true → el ρ1 = .ok ρ1 (k d)) ∧ mixD ρ0 ρ1 own = ρ0) :
    compX own f t tt el ρ = .ok ρ0 (.ow false ((ds.filter g).map k)) := by
  rw [ap_compX, hf, bR_ok, decide_eq_true hl, hp, Bool.and_self, cR_true, compL_pick g k ds h, kR_ok]
/-- more than m unlike things are not all among m -/
theorem nodup_le {α : Type} [BEq α] [LawfulBEq α] : ∀ (l m : List α), l.Nodup → (∀ x ∈ l, x ∈ m) → l.length ≤ m.length
  | [], _, _, _ => Nat.zero_le _
  | a :: l, m, hn, hs => by
    rw [List.nodup_cons] at hn
    have ha := hs a (by simp)
    have ih := nodup_le l (m.erase a) hn.2 fun x hx => by
      have hx' := hs x (by simp [hx])
      rw [List.mem_erase_of_ne]
      · exact hx'
      · intro q
        exact hn.1 (q ▸ hx)
    rw [List.length_erase_of_mem ha] at ih
    have : 0 < m.length := List.length_pos_of_mem ha
    rw [List.length_cons]
    omega
theorem pigeon {α : Type} [BEq α] [LawfulBEq α] {l m : List α} (hn : l.Nodup) (h : m.length < l.length) : ∃ x ∈ l, ¬ x ∈ m := by
  apply Classical.byContradiction
  intro z
  have := nodup_le l m hn fun x hx => Classical.byContradiction fun q => z ⟨x, hx, q⟩
  omega
theorem first_ix {x : D} {xs : List D} : ixD (.lst (x :: xs)) (.int 0) = some (.fz x) := by
  show (L2.atI (x :: xs) 0).map Sl.fz = _
  have : L2.atI (x :: xs) 0 = some x := by
    unfold L2.atI ixN
    rw [if_pos (Int.le_refl 0), if_pos (by simp only [List.length_cons]; omega)]
    rfl
  rw [this]
  rfl
theorem join_lst {ys : List Str} (h : (ys.map (·.length)).sum ≤ 1000) : joinG (.str "") [.lst (ys.map D.str)] = some (.fz (.str (Txt.join "" ys))) := by
  show (strsD (ys.map D.str)).bind (fun ys => if (ys.map (·.length)).sum + ys.length * ("" : Str).length ≤ 16777216 then some (Sl.fz (.str (Txt.join "" ys))) else none) = _
  rw [strsD_map, Option.bind_some]
  have : ("" : Str).length = 0 := by decide
  rw [this, Nat.mul_zero, Nat.add_zero, if_pos (by omega)]
theorem append_lst {xs : List D} {d : D} (h : xs.length ≤ 1000) : appendG xs [d] = some (xs ++ [d], .non) := by
  show (if xs.length < sizeLine then some (xs ++ [d], D.non) else none) = _
  rw [if_pos (Nat.lt_of_le_of_lt h (by decide))]
theorem add_lst {xs ys : List D} (h : xs.length + ys.length ≤ 1000) : addD (.lst xs) (.lst ys) = some (.ow false (xs ++ ys)) := by
  show (if xs.length + ys.length ≤ sizeLine then some (Sl.ow false (xs ++ ys)) else none) = _
  rw [if_pos (Nat.le_trans h (by decide))]
theorem add_tup {xs ys : List D} (h : xs.length + ys.length ≤ 1000) : addD (.tup xs) (.tup ys) = some (.fz (.tup (xs ++ ys))) := by
  show (if xs.length + ys.length ≤ sizeLine then some (Sl.fz (.tup (xs ++ ys))) else none) = _
  rw [if_pos (Nat.le_trans h (by decide))]
end L2.WD
/-! The data layer, part 29: the head's run, looked at in three checks (each wants less memory). -/
namespace L2.WD
open PySem PySem.W PySem.Spec PySem.Calls PyProof.Rows HandSHeadRun
/-- what the Hook looks at, as a tree -/
abbrev KT (n : Nat) (s : SharedT) : Frag := He.frT (getT s) (asC (getT s) n)
theorem run_split {r : OpenRow} {q : Program} {n M : Nat} {fa : List He.Fa} {fn : List He.DefD} {ex : Frag → Bool} {loose : List Str} {w : World}
    (h1 : ∀ os : OsState, (endF (stepQ (denQ tabQ) r.prog w) M r.prog w os).map (fun s => (looksF r.prog (boot_heap w.params) s.abs, seenQ q loose (importedModules r.prog.main.body) (fun s => xlAt q [] s && recOk r.toRowW.records s) s.abs)) = some (true, openGood q loose))
    (h2 : ∀ os : OsState, (endF (stepQ (denQ tabQ) r.prog w) M r.prog w os).map (fun s => He.obsD fa fn (KT n s)) = some (He.valD fn))
    (h3 : ∀ os : OsState, (endF (stepQ (denQ tabQ) r.prog w) M r.prog w os).map (fun s => ex (KT n s)) = some true) :
    RunEq r q (hookY n fa fn ex) (fun s => obsY n fa fn ex (getT s)) M loose w := by
  intro os
  have a := h1 os
  have b := h2 os
  have c := h3 os
  cases e : endF (stepQ (denQ tabQ) r.prog w) M r.prog w os with
  | none => rw [e] at a; cases a
  | some s =>
    rw [e] at a b c
    rw [Option.map_some] at a b c ⊢
    have a := Option.some.inj a
    have b := Option.some.inj b
    have c := Option.some.inj c
    have a1 := congrArg Prod.fst a
    have a2 := congrArg Prod.snd a
    show some (_, _, _) = _
    rw [show looksF r.prog (boot_heap w.params) s.abs = true from a1, show seenQ q loose (importedModules r.prog.main.body) (fun s => xlAt q [] s && recOk r.toRowW.records s) s.abs = openGood q loose from a2]
    show some (true, openGood q loose, (He.obsD fa fn (KT n s), ex (KT n s))) = _
    rw [b, c]
    rfl
end L2.WD
/-! The data layer, part 30: zip; three stores, one of them a cell. -/
namespace L2.WD
open PySem PySem.Spec PySem.Calls PyProof.Rows
/-- the items of both, by twos -/
def pairD : List D → List D → List D
  | x :: xs, y :: ys => .tup [x, y] :: pairD xs ys
  | _, _ => []
theorem pairD_len : ∀ xs ys : List D, (pairD xs ys).length = min xs.length ys.length
  | [], ys => by simp [pairD]
  | _ :: _, [] => by simp [pairD]
  | x :: xs, y :: ys => by
    show (pairD xs ys).length + 1 = _
    rw [pairD_len xs ys, List.length_cons, List.length_cons]
    omega
theorem pairD_get : ∀ (xs ys : List D) (i : Nat) (x y : D), xs[i]? = some x → ys[i]? = some y → (pairD xs ys)[i]? = some (.tup [x, y])
  | [], _, _, _, _, h, _ => by simp at h
  | _ :: _, [], _, _, _, _, h => by simp at h
  | x :: xs, y :: ys, 0, x', y', h, h2 => by simp at h h2; subst h; subst h2; rfl
  | x :: xs, y :: ys, i + 1, x', y', h, h2 => by
    have := pairD_get xs ys i x' y' (by simpa using h) (by simpa using h2)
    simpa [pairD] using this
def zipDD : D → D → Option (List D)
  | .lst xs, .lst ys => some (pairD xs ys)
  | .tup xs, .tup ys => some (pairD xs ys)
  | _, _ => none
def zipX (f g : Mo D) : Mo (List D) := Mo.bind f fun a => Mo.bind g fun b ρ => retO ρ (zipDD a b)
section
variable {X : Cx} {e : Ev} {W : WX} {Fo G H : Hp} {σ : St} {ρ : List Sl}
theorem wk_zip {J : It} {ws vs : List V} {xs ys : List D} {Y : Nat → Hp → V → Hp → Prop} {p : Hp → Prop} (w : Walk J (min ws.length vs.length) p Y) (hp : ∀ H, (∃ G1, L2.Same G G1 ∧ L2.Same G1 H) → p H)
    (hy : ∀ i H x H', p H → Y i H x H' → ∃ T y z, x = .ref T ∧ H T = none ∧ H' = upd H T (.tup [y, z]) ∧ ws[i]? = some y ∧ vs[i]? = some z) (r : DRs e G ws xs) (r' : DRs e G vs ys) : Wk e Fo G σ H ρ J (pairD xs ys) := by
  refine ⟨fun i H x H' => p H ∧ Y i H x H', ?_, fun i H x H' G1 g h1 hi y => ?_⟩
  · rw [pairD_len, ← r.length, ← r'.length]
    refine w.mono hp fun i H x H' _ pq y => ⟨hp H pq, y⟩
  · obtain ⟨T, y', z', rfl, nT, eH, hw, hv⟩ := hy i H x H' y.1 y.2
    rw [pairD_len] at hi
    have gx := List.getElem?_eq_getElem (show i < xs.length by omega)
    have gy := List.getElem?_eq_getElem (show i < ys.length by omega)
    obtain ⟨v, h2, h3⟩ := r.get gx
    obtain ⟨v2, k2, k3⟩ := r'.get gy
    rw [hw] at h2
    cases h2
    rw [hv] at k2
    cases k2
    have gT := h1.free nT
    refine ⟨upd G1 T (.tup [y', z']), _, pairD_get xs ys i _ _ gx gy, ?_, ?_⟩
    · rw [eH]
      exact Gr.lay2 h1 nT
    · exact .tup (SqT.of upd_same) (.cons (h3.mono (g.trans (same_upd gT))) (.cons (k3.mono (g.trans (same_upd gT))) .nil))
theorem walk_zipT {K : PySem.W.Frag} {a b : Addr} {xs ys : List V} : Walk (RZ.ItzT K a b) (min xs.length ys.length) (fun H => SqT K H a xs ∧ SqT K H b ys) (YPair (fun i => xs[i]?) (fun i => ys[i]?)) := by
  refine ⟨fun i _ hi q => ?_, fun _ q => ⟨xs, ys, q.1, q.2, by omega⟩, fun i H v H' _ q y => ?_⟩
  · have h1 : i < xs.length := by omega
    have h2 : i < ys.length := by omega
    exact ⟨xs, ys, xs[i], ys[i], q.1, q.2, by simp [h1], by simp [h2]⟩
  · obtain ⟨T, x, z, h1, h2, h3, h4, h5⟩ := y
    exact ⟨T, x, z, h1, h2, h3, h4 xs q.1, h5 ys q.2⟩
theorem xi_zip {l l2 : Expr} {f f2 : Mo D} {p pos tpos : Pos} {elts : List Expr} {kk : Nat} (C : EC X e W) (hg : Gl X "zip") (hm : X.mg "zip" = none) (hl : PE X l (tD e W f)) (hl2 : PE X l2 (tD e W f2))
    (hs : starEach [l, l2] X.env = (false, eval l X.env) :: starEach [l2] X.env := by rfl) (hs2 : starEach [l2] X.env = [(false, eval l2 X.env)] := by rfl) (hpl : (backTo pos (starEach [l2] X.env)).any (·.1) = false := by rfl) :
    PI X (.Tuple elts kk tpos) (.Call (.Name "zip" p) [l, l2] [] pos) (tI e W (zipX f f2)) := (RZ.pi_zipA hg hm (pa_cons hl (pa_cons hl2 pa_nil hs2) hs) hs hpl).imp fun σ H Q ⟨Fo, G, ρ, R, p⟩ => by
  refine tG.mono (Post.bind R p) fun v H1 ⟨G1, ρ1, d, g1, R1, r1, p1⟩ => ?_
  refine tG.mono (Post.bind R1 p1) fun v2 H2 ⟨G2, ρ2, d2, g2, R2, r2, p2⟩ => ?_
  have r1 : DR e G2 v d := DR.mono g2 r1
  have r2 : DR e G2 v2 d2 := r2
  rw [C.K]
  cases r1 with
  | @lst a ws ds h r =>
    cases r2 with
    | @lst b vs ds2 h2 r' =>
      refine ⟨a, b, _, _, rfl, .inl ⟨SqL.of (R2.gh _ _ h), SqL.of (R2.gh _ _ h2), p2.here R2 (wk_zip (ws := ws) (vs := vs) (walk_zip rfl) (fun H ⟨G3, g3, h3⟩ => ⟨Same.seqL (g3.trans h3) (SqL.of h), Same.seqL (g3.trans h3) (SqL.of h2)⟩) (fun i H x H' _ ⟨T, v, w, h1, h2, h3, h4, h5⟩ => ⟨T, v, w, h1, h2, h3, h4, h5⟩) r r')⟩⟩
    | _ => exact p2.elim
  | @tup a ws ds h r =>
    cases r2 with
    | @tup b vs ds2 h2 r' =>
      refine ⟨a, b, _, _, rfl, .inr ⟨Same.seqT R2.gh h, Same.seqT R2.gh h2, p2.here R2 (wk_zip (ws := ws) (vs := vs) walk_zipT (fun H ⟨G3, g3, h3⟩ => ⟨Same.seqT (g3.trans h3) h, Same.seqT (g3.trans h3) h2⟩) (fun i H x H' _ ⟨T, v, w, h1, h2, h3, h4, h5⟩ => ⟨T, v, w, h1, h2, h3, h4, h5⟩) r r')⟩⟩
    | _ => exact p2.elim
  | _ => exact p2.elim
end
/-- three stores, one of them a cell -/
theorem sw_cell3 {X : Cx} {x y z : Str} {px py pz pt : Pos} {kt k2 : Nat} {pt2 : Pos} {a b c : Expr} (h : X.env.kindOf x = some .cell ∨ X.env.kindOf y = some .cell ∨ X.env.kindOf z = some .cell) : swappedStores [.Tuple [.Name x px, .Name y py, .Name z pz] kt pt] (.Tuple [a, b, c] k2 pt2) X.env = pure none := by
  unfold swappedStores
  rcases h with h | h | h <;>
  · simp [h, List.filterMap]
    intro _ _ _ _ hl
    exfalso
    revert hl
    repeat' split
    all_goals simp
theorem ap_zipX {ρ : List Sl} (f g : Mo D) : zipX f g ρ = bR (f ρ) fun ρ a => bR (g ρ) fun ρ b => oR (zipDD a b) (fun ds => .ok ρ ds) .bad := by
  unfold zipX; rw [ap_bind]; congr 1
end L2.WD
/-! The data layer, part 31: max of a list, isinstance with two kinds, == of empty dicts. -/
namespace L2.WD
open PySem PySem.Spec PySem.Calls PyProof.Rows
section
variable {X : Cx} {e : Ev}
/-! ### max of a list -/
def maxOf : Int → List Int → Int
  | m, [] => m
  | m, y :: ys => maxOf (if y > m then y else m) ys
theorem maxOf_ge : ∀ (ys : List Int) (m : Int), m ≤ maxOf m ys ∧ ∀ y ∈ ys, y ≤ maxOf m ys
  | [], m => ⟨Int.le_refl _, fun _ z => by cases z⟩
  | y :: ys, m => by
    obtain ⟨h1, h2⟩ := maxOf_ge ys (if y > m then y else m)
    show _ ≤ maxOf (if y > m then y else m) ys ∧ _
    have h3 : m ≤ (if y > m then y else m) ∧ y ≤ (if y > m then y else m) := by split <;> omega
    refine ⟨by omega, fun z hz => ?_⟩
    show z ≤ maxOf (if y > m then y else m) ys
    rcases List.mem_cons.mp hz with rfl | hz
    · omega
    · exact h2 z hz
theorem maxOf_mem : ∀ (ys : List Int) (m : Int), maxOf m ys = m ∨ maxOf m ys ∈ ys
  | [], m => .inl rfl
  | y :: ys, m => by
    show maxOf (if y > m then y else m) ys = m ∨ maxOf (if y > m then y else m) ys ∈ y :: ys
    rcases maxOf_mem ys (if y > m then y else m) with h | h
    · rw [h]
      split
      · exact .inr (by simp)
      · exact .inl rfl
    · exact .inr (by simp [h])
def maxLD : D → Option Sl
  | .lst xs => (intsD xs).bind fun ns => match ns with
    | [] => none
    | m :: ms => some (.fz (.int (maxOf m ms)))
  | _ => none
theorem call_maxL (C : X.K = e.K) (hc : X.calm = true) : CallR X (.builtin "max") (rMax e.K) := by rw [← C]; exact cr_max hc
theorem cg_maxL : CaG e (rMax e.K) (one maxLD) := ca_one fun G H v d s Q g h hs q => by
  cases d with
  | lst xs =>
    obtain ⟨b, ws, rfl, k1, k2⟩ := h.lst g
    obtain ⟨ns, h1, h2⟩ := Option.bind_eq_some_iff.mp (show (intsD xs).bind (fun ns => match ns with | [] => none | m :: ms => some (Sl.fz (.int (maxOf m ms)))) = some s from hs)
    rw [intsD_eq h1] at k2
    rw [k2.ints] at k1
    cases ns with
    | nil => cases h2
    | cons m ms =>
      cases h2
      refine ⟨b, m :: ms, rfl, SqL.of k1, Nat.succ_pos _, fun k hk hle => ?_⟩
      have e1 : k = maxOf m ms := by
        obtain ⟨a1, a2⟩ := maxOf_ge ms m
        have b1 : k ≤ maxOf m ms := by
          rcases List.mem_cons.mp hk with rfl | hk
          · exact a1
          · exact a2 k hk
        have b2 : maxOf m ms ≤ k := by
          rcases maxOf_mem ms m with h | h
          · rw [h]; exact hle m (by simp)
          · exact hle _ (by simp [h])
        omega
      rw [e1]
      exact q G H _ (Gr.refl g) (.int _)
  | _ => cases hs
/-! ### isinstance(x, (tuple, list)) -/
def rIsiQ (K : PySem.W.Frag) : List V → Hp → VK → Prop := fun xs H Q => ∃ (x : V) (tp : Addr) (cs : List V) (t : Value) (us : List Value) (b : Bool), xs = [x, .ref tp] ∧ SqT K H tp cs ∧ Paired ClsV cs us ∧ TyX K H x t ∧ PySem.W.kitAny K t us = some b ∧ Q (.bl b) H
theorem call_isiQ' : CallR X (.builtin "isinstance") (rIsiQ X.K) := by
  intro pins s σ H xs us Q I r h
  obtain ⟨x, tp, cs, t, ws, b, rfl, hT, k, ty, e, q⟩ := h
  obtain ⟨u1, u2, rfl, r1, r2⟩ := vals2 r
  cases (show u2 = Value.ref tp from r2)
  obtain ⟨P, Z, p, hx⟩ := kit_of I r1 ty
  obtain ⟨its, rv, ⟨o, h1, h2, n, h3⟩, _⟩ := I.tuple hT
  have e3 := ClsV.all k rv
  subst e3
  obtain ⟨oc, od, dt, sl⟩ := o
  simp only at h2 h3
  subst h2 h3
  exact PySem.W.kia_tup Z I.kIn p h1 e hx fun tk => ⟨.bl b, H, I.tok tk, rfl, q⟩
theorem call_isiQ (C : X.K = e.K) : CallR X (.builtin "isinstance") (rIsiQ e.K) := by rw [← C]; exact call_isiQ'
/-- a tuple or a list, or not -/
def isTLD : List D → Option Sl
  | [d, .tup [.ty a, .ty b]] => if a = "tuple" ∧ b = "list" then (match d with
    | .non => some (.fz (.bl false))
    | .bl _ => some (.fz (.bl false))
    | .int _ => some (.fz (.bl false))
    | .str _ => some (.fz (.bl false))
    | .lst _ => some (.fz (.bl true))
    | .tup _ => some (.fz (.bl true))
    | .dic _ => some (.fz (.bl false))
    | _ => none) else none
  | _ => none
theorem kit_tl {K : PySem.W.Frag} {a : String} {b : Bool} (h1 : kitB a "tuple" = some false) (h2 : kitB a "list" = some b) : PySem.W.kitAny K (.type a) [.type "tuple", .type "list"] = some b := by
  refine kitAny_cons (kit_ty h1) (fun _ => ?_) fun z => by cases z
  cases b with
  | true => exact kitAny_cons (kit_ty h2) (fun z => by cases z) fun _ => rfl
  | false => exact kitAny_cons (kit_ty h2) (fun _ => rfl) fun z => by cases z
theorem kit_t {K : PySem.W.Frag} : PySem.W.kitAny K (.type "tuple") [.type "tuple", .type "list"] = some true :=
  kitAny_cons (kit_ty (b := "tuple") (r := true) (by decide +kernel)) (fun z => by cases z) fun _ => rfl
theorem cg_isTL : CaG e (rIsiQ e.K) isTLD := by
  intro G H vs ds s Q g h hs q
  cases h with
  | nil => cases hs
  | @cons v d _ _ h1 t =>
    cases t with
    | nil => simp [isTLD] at hs
    | @cons w c _ _ h2 t2 =>
      cases t2 with
      | cons _ _ => simp [isTLD] at hs
      | nil =>
        cases c with
        | tup cs =>
          obtain ⟨p, ws, rfl, k1, k2⟩ := h2.tup g
          match cs, k2, hs with
          | [.ty a, .ty b], k2, hs =>
            simp only [isTLD] at hs
            split at hs
            · rename_i c
              obtain ⟨rfl, rfl⟩ := c
              cases k2 with
              | cons r1 r2 =>
                cases r2 with
                | cons r2 r3 =>
                  cases r3
                  cases r1
                  cases r2
                  have pr : Paired ClsV [V.ty "tuple", V.ty "list"] [.type "tuple", .type "list"] := .cons (.ty _) (.cons (.ty _) .nil)
                  have fin : ∀ {t : Value} {b : Bool}, TyX e.K H v t → PySem.W.kitAny e.K t [.type "tuple", .type "list"] = some b → s = .fz (.bl b) → rIsiQ e.K [v, .ref p] H Q := fun {t b} ty hk es => by
                    subst es
                    exact ⟨v, p, _, t, _, b, rfl, k1, pr, ty, hk, q G H _ (Gr.refl g) (.bl _)⟩
                  cases d with
                  | non => cases hs; cases h1.non; exact fin (.base .non) (kit_tl (a := "NoneType") (by decide +kernel) (by decide +kernel)) rfl
                  | bl x => cases hs; cases h1.bl; exact fin (.base (.bl x)) (kit_tl (a := "bool") (by decide +kernel) (by decide +kernel)) rfl
                  | int x => cases hs; cases h1.int; exact fin (.base (.int x)) (kit_tl (a := "int") (by decide +kernel) (by decide +kernel)) rfl
                  | str x => cases hs; cases h1.str; exact fin (.base (.str x)) (kit_tl (a := "str") (by decide +kernel) (by decide +kernel)) rfl
                  | lst ys =>
                    cases hs
                    obtain ⟨p, ws, rfl, k1, k2⟩ := h1.lst g
                    exact fin (.base (.lst k1)) (kit_tl (a := "list") (by decide +kernel) (by decide +kernel)) rfl
                  | tup ys =>
                    cases hs
                    obtain ⟨p, ws, rfl, k1, k2⟩ := h1.tup g
                    rcases k1 with (k1 | ⟨o, k1⟩) | k1
                    · exact fin (.base (.tup k1)) kit_t rfl
                    · exact fin (.fTuple k1) kit_t rfl
                    · obtain ⟨_, us, n, k2, k3, _⟩ := k1
                      exact fin (.kTuple k2 k3) kit_t rfl
                  | dic ys =>
                    cases hs
                    have dr := h1.dr fun _ z => nomatch z
                    cases dr with
                    | dic k1 k2 => exact fin (.base (.dK (g _ _ k1))) (kit_tl (a := "dict") (by decide +kernel) (by decide +kernel)) rfl
                  | _ => cases hs
            · cases hs
        | _ => simp [isTLD] at hs
/-! ### == of empty dicts -/
def rDic0 : R2 := fun x y H Q => ∃ a b kvs, x = .ref a ∧ y = .ref b ∧ H a = some (.dK kvs) ∧ H b = some (.dK kvs) ∧ (kvs.map (·.1)).Nodup ∧ (∀ p ∈ kvs, flatB p.2 = true) ∧ Q (.bl true) H
def rEq3 (K : PySem.W.Frag) : R2 := ror rDic0 (rEq2 K)
theorem op_eq3 (C : X.K = e.K) (hu : X.A.units + 64 < cLine) : OpR X (compareOp .Eq) (rEq3 e.K) := opr_or (op_eq_dict (by omega)) (op_eq2 C hu)
def eq3D : D → D → Option Sl
  | .dic [], .dic [] => some (.fz (.bl true))
  | d1, d2 => eq2D false d1 d2
theorem og_eq3 : OpG e (rEq3 e.K) eq3D := by
  intro G H x y d1 d2 s Q g h1 h2 hs q
  have other : eq2D false d1 d2 = some s → rEq3 e.K x y H Q := fun hs => .inr (og_eq2 G H x y _ _ s Q g h1 h2 hs q)
  cases d1 with
  | dic ks =>
    cases d2 with
    | dic ls =>
      cases ks with
      | nil =>
        cases ls with
        | nil =>
          cases hs
          have dr := h1.dr fun _ z => nomatch z
          have dr2 := h2.dr fun _ z => nomatch z
          cases dr with
          | dic k1 k2 =>
            cases k2
            cases dr2 with
            | dic k3 k4 =>
              cases k4
              exact .inl ⟨_, _, [], rfl, rfl, g _ _ k1, g _ _ k3, List.nodup_nil, (fun _ z => by cases z), q G H _ (Gr.refl g) (.bl _)⟩
        | cons _ _ => exact other hs
      | cons _ _ => exact other hs
    | _ => exact other (by cases ks <;> exact hs)
  | _ => exact other (by cases d2 <;> exact hs)
end
end L2.WD
/-! The data layer, part 32: min of a list; is True; sorted pairs of a text and a number. -/
namespace L2.WD
open PySem PySem.Spec PySem.Calls PyProof.Rows
section
variable {X : Cx} {e : Ev}
/-! ### min of a list -/
def minOf : Int → List Int → Int
  | m, [] => m
  | m, y :: ys => minOf (if y < m then y else m) ys
theorem minOf_le : ∀ (ys : List Int) (m : Int), minOf m ys ≤ m ∧ ∀ y ∈ ys, minOf m ys ≤ y
  | [], m => ⟨Int.le_refl _, fun _ z => by cases z⟩
  | y :: ys, m => by
    obtain ⟨h1, h2⟩ := minOf_le ys (if y < m then y else m)
    show minOf (if y < m then y else m) ys ≤ _ ∧ _
    have h3 : (if y < m then y else m) ≤ m ∧ (if y < m then y else m) ≤ y := by split <;> omega
    refine ⟨by omega, fun z hz => ?_⟩
    show minOf (if y < m then y else m) ys ≤ z
    rcases List.mem_cons.mp hz with rfl | hz
    · omega
    · exact h2 z hz
theorem minOf_mem : ∀ (ys : List Int) (m : Int), minOf m ys = m ∨ minOf m ys ∈ ys
  | [], m => .inl rfl
  | y :: ys, m => by
    show minOf (if y < m then y else m) ys = m ∨ minOf (if y < m then y else m) ys ∈ y :: ys
    rcases minOf_mem ys (if y < m then y else m) with h | h
    · rw [h]
      split
      · exact .inr (by simp)
      · exact .inl rfl
    · exact .inr (by simp [h])
def minLD : D → Option Sl
  | .lst xs => (intsD xs).bind fun ns => match ns with
    | [] => none
    | m :: ms => some (.fz (.int (minOf m ms)))
  | _ => none
theorem call_minL (C : X.K = e.K) (hc : X.calm = true) : CallR X (.builtin "min") (rMin e.K) := by rw [← C]; exact cr_min hc
theorem cg_minL : CaG e (rMin e.K) (one minLD) := ca_one fun G H v d s Q g h hs q => by
  cases d with
  | lst xs =>
    obtain ⟨b, ws, rfl, k1, k2⟩ := h.lst g
    obtain ⟨ns, h1, h2⟩ := Option.bind_eq_some_iff.mp (show (intsD xs).bind (fun ns => match ns with | [] => none | m :: ms => some (Sl.fz (.int (minOf m ms)))) = some s from hs)
    rw [intsD_eq h1] at k2
    rw [k2.ints] at k1
    cases ns with
    | nil => cases h2
    | cons m ms =>
      cases h2
      refine ⟨b, m :: ms, rfl, SqL.of k1, Nat.succ_pos _, fun k hk hle => ?_⟩
      have e1 : k = minOf m ms := by
        obtain ⟨a1, a2⟩ := minOf_le ms m
        have b1 : minOf m ms ≤ k := by
          rcases List.mem_cons.mp hk with rfl | hk
          · exact a1
          · exact a2 k hk
        have b2 : k ≤ minOf m ms := by
          rcases minOf_mem ms m with h | h
          · rw [h]; exact hle m (by simp)
          · exact hle _ (by simp [h])
        omega
      rw [e1]
      exact q G H _ (Gr.refl g) (.int _)
  | _ => cases hs
/-! ### is, of two truths -/
def rIsB : R2 := fun x y H Q => ∃ a b, x = .bl a ∧ y = .bl b ∧ Q (.bl (decide (a = b))) H
theorem op_isB : OpR X (compareOp .Is) rIsB := by
  intro pins s σ H x y v u Q I rx ry h
  obtain ⟨a, b, rfl, rfl, q⟩ := h
  cases rx
  cases ry
  refine wpAny_is_plain rfl (fin_bl I q ?_)
  cases a <;> cases b <;> rfl
def isBD : D → D → Option Sl
  | .bl a, .bl b => some (.fz (.bl (decide (a = b))))
  | _, _ => none
theorem og_isB : OpG e rIsB isBD := by
  intro G H x y d1 d2 s Q g h1 h2 hs q
  cases d1 with
  | bl a =>
    cases d2 with
    | bl b =>
      cases h1.bl
      cases h2.bl
      cases hs
      exact ⟨a, b, rfl, rfl, q G H _ (Gr.refl g) (.bl _)⟩
    | _ => cases hs
  | _ => cases d2 <;> cases hs
end
/-! ### sorted pairs -/
section
variable {prog : Program} {w : World} {A : Around} {E : Value → Shared → Prop} {s : Shared} {β : Type}
/-- sorted(xs), xs a list or a tuple whose items read as data without objects of their own -/
theorem sorted_seq {l : Addr} {T : String} {o : Obj} {n : Nat} {us : List Value} {bs : List β} {enc : β → PyData} {R : Value → β → Prop} {Q : Value → Shared → Prop} (hT : T = "list" ∨ T = "tuple") (ho : s.heap.get? l = some o) (hc : o.cls = .type T) (hd : o.data = .seq us.toArray n)
    (e : PySem.W.EachIs R us bs) (er : PySem.W.EachIs (fun v b => Reads s.heap v (enc b) []) us bs) (hal : PySem.W.AllAlike (bs.map enc)) (hk : PySem.W.Sortable (bs.map enc)) (hL : bs.length ≤ sizeLine) (hu : ∀ b, b ∈ bs → A.units + 2 + (enc b).depth < cLine)
    (h : ∀ (h1 h' : Heap) (out : List Value), (∀ b o, s.heap.get? b = some o → h1.get? b = some o) → (∀ b o, h1.get? b = some o → h'.get? b = some o) → (∃ c, h'.get? h1.objs.size = some (seqObj "list" (List.toArray out) c)) → PySem.W.EachIs R out (bs.mergeSort (PySem.W.dataLe false enc)) → Q (.ref h1.objs.size) { s with heap := h' }) :
    wpAny (model prog w) A (call (.builtin "sorted") [.ref l]) Q E s := by
  have hz : us.length ≤ sizeLine := by rw [e.length]; exact hL
  refine call_function_entry_kw kind_sorted plain_sorted entry_sorted (args_sorted1 _) ?_
  unfold Builtin.«sorted»
  refine wpAny_bind (m := checkCount "sorted" 1 1 _) (wpAny_pure ?_)
  refine wpAny_bind (wpAny_collect_seq l hT ho hc hd (fun h1 k1 => ?_) (by rw [List.size_toArray]; exact hz))
  refine wpAny_bind (wpAny_newList ?_ hz)
  have hat : (h1.push (seqObj "list" us.toArray 0)).get? h1.objs.size = some (seqObj "list" us.toArray 0) := Heap.get?_push_size _ rfl
  refine wpAny_bind (wpAny_holding (PySem.W.list_sort_data (s := { s with heap := h1.push (seqObj "list" us.toArray 0) }) (a := h1.objs.size) (n := 0) (R := R) hat e ?_ hal hk hL (fun b hb => ?_) fun out ho2 he => ?_))
  · exact er.mono fun v b r => ⟨[], PyProof.Rows.Reads.keeps (fun b o q => Heap.get?_push_of_some _ (k1 b o q)) r, by simp⟩
  · have := hu b hb
    show A.units + 1 + 1 + _ < _
    omega
  · obtain ⟨c, hc2⟩ := sortedHeap_at (vs := us) (out := List.toArray out) hat
    refine wpAny_pure ⟨_, rfl, h h1 _ out k1 (fun b o q => ?_) ⟨c, hc2⟩ he⟩
    have hlt := Heap.lt_size q
    rw [sortedHeap_old (Nat.ne_of_lt hlt) (by rw [size_push']; exact Nat.lt_succ_of_lt hlt)]
    exact Heap.get?_push_of_some _ q
end
end L2.WD
/-! The data layer, part 33: sorted pairs, dict of pairs, d[k]. -/
namespace L2.WD
open PySem PySem.Spec PySem.Calls PyProof.Rows
abbrev SI : Type := Str × Int
def encP (b : SI) : PyData := .tuple [.str b.1, .int b.2]
theorem encP_alike (b b' : SI) : PySem.W.alike (encP b) (encP b') = true := by
  unfold encP
  simp [PySem.W.alike, PySem.W.alikeAll]
theorem encP_depth (b : SI) : (encP b).depth ≤ 4 := by
  unfold encP
  simp [PyData.depth, PyData.depthAll]
theorem reads_pair {h : Heap} {v : Value} {b : SI} {as : List Addr} (r : Reads h v (encP b) as) : Reads h v (encP b) [] := by
  have : as = [] := by
    have all : ∀ us, ReadsAll h us [.str b.1, .int b.2] as → as = [] := fun us r => by
      cases r with
      | cons r1 r2 =>
        cases r1
        cases r2 with
        | cons r3 r4 =>
          cases r3
          cases r4
          rfl
    unfold encP at r
    cases r with
    | tuple _ _ _ r => exact all _ r
  subst this
  exact r
def leP (a b : SI) : Bool := !(if a.1 = b.1 then decide (b.2 < a.2) else decide (b.1.cps.toList < a.1.cps.toList))
theorem leP_eq : PySem.W.dataLe false encP = leP := by
  funext a b
  show (!PySem.W.dataLt (encP b) (encP a)) = leP a b
  unfold encP leP
  congr 1
  rw [PySem.W.dataLt_tuple, PySem.W.dataLt_cons (by simp [PySem.W.alike])]
  by_cases c : a.1 = b.1
  · rw [if_pos c]
    have : PyData.eqv (.str b.1) (.str a.1) = true := by
      show (b.1 == a.1) = true
      rw [c]
      exact beq_self_eq_true _
    rw [if_pos this, PySem.W.dataLt_cons (by simp [PySem.W.alike])]
    by_cases c2 : PyData.eqv (.int b.2) (.int a.2) = true
    · rw [if_pos c2]
      have e : b.2 = a.2 := eq_of_beq (show (b.2 == a.2) = true from c2)
      rw [decide_eq_false (by omega)]
      rfl
    · rw [if_neg c2, PySem.W.dataLt_int]
  · rw [if_neg c]
    have : ¬ PyData.eqv (.str b.1) (.str a.1) = true := by
      show ¬ (b.1 == a.1) = true
      rw [beq_iff_eq]
      exact fun z => c z.symm
    rw [if_neg this, PySem.W.dataLt_str]
def sortP (bs : List SI) : List SI := bs.mergeSort leP
section
variable {X : Cx} {e : Ev}
theorem vals_each {R : V → SI → Prop} : ∀ {xs : List V} {us : List Value} {bs : List SI}, Vals xs us → PySem.W.EachIs R xs bs → PySem.W.EachIs (fun u b => ∃ x, RelV x u ∧ R x b) us bs
  | _, _, _, .nil, .nil => .nil
  | _, _, _, .cons r t, .cons r2 t2 => .cons ⟨_, r, r2⟩ (vals_each t t2)
theorem each_vals {R : V → SI → Prop} : ∀ {us : List Value} {bs : List SI}, PySem.W.EachIs (fun u b => ∃ x, RelV x u ∧ R x b) us bs → ∃ xs, Vals xs us ∧ PySem.W.EachIs R xs bs
  | _, _, .nil => ⟨[], .nil, .nil⟩
  | _, _, .cons ⟨x, r1, r2⟩ t => by
    obtain ⟨xs, h1, h2⟩ := each_vals t
    exact ⟨x :: xs, .cons r1 h1, .cons r2 h2⟩
def rSortR (K : PySem.W.Frag) : List V → Hp → VK → Prop := fun vs H Q => ∃ (a : Addr) (xs : List V) (bs : List SI) (R : V → SI → Prop), vs = [.ref a] ∧ (SqL K H a xs ∨ SqT K H a xs) ∧ PySem.W.EachIs R xs bs ∧ PySem.W.EachIs (fun x b => Dp K H x (encP b)) xs bs ∧ bs.length ≤ 1000 ∧
  ∀ ys p, PySem.W.EachIs R ys (sortP bs) → H p = none → Q (.ref p) (upd H p (.lst ys))
theorem cr_sortR (hu : X.A.units + 64 < cLine) : CallR X (.builtin "sorted") (rSortR X.K) := by
  intro pins s σ H vs us Q I r h
  obtain ⟨a, xs, bs, R, rfl, hs, e1, e2, hl, q⟩ := h
  obtain ⟨u, rfl, ru⟩ := vals1 r
  obtain rfl : u = Value.ref a := ru
  have main : ∀ (T : String) (o : Obj) (n : Nat) (its : List Value), (T = "list" ∨ T = "tuple") → s.heap.get? a = some o → o.cls = .type T → o.data = .seq its.toArray n → Vals xs its → wpAny (model X.prog X.w) X.A (call (.builtin "sorted") [.ref a]) (fun u s' => ∃ v H', Inv X pins σ H' s' ∧ RelV v u ∧ Q v H') X.xe s := fun T o n its hT ho hc hd rv => by
    refine sorted_seq (enc := encP) (bs := bs) hT ho hc hd (vals_each rv e1) ((vals_each rv e2).mono fun u b z => ?_) (.of encP_alike) (.tuples fun b => ⟨_, _, rfl⟩) (Nat.le_trans hl (by rw [sizeLine_eq]; decide)) (fun b _ => ?_) fun h1 h' out k1 k2 hc3 he => ?_
    · obtain ⟨x, r1, r2⟩ := z
      obtain ⟨as, r3⟩ := Dp.reads I _ x u r2 r1
      exact reads_pair r3
    · have := encP_depth b
      omega
    · obtain ⟨c, hc2⟩ := hc3
      rw [leP_eq] at he
      obtain ⟨ys, v1, v2⟩ := each_vals he
      have I1 : Inv X pins σ H { s with heap := h1 } := I.kept (t' := s.toks) k1
      have hn : H h1.objs.size = none := I1.hok.fresh (Nat.le_refl _)
      refine ⟨.ref _, upd H h1.objs.size (.lst ys), I1.laid (t' := s.toks) k2 (Nat.le_refl _) ⟨?_, out, c, v1, hc2⟩, rfl, q ys _ v2 hn⟩
      have : ys.length = (sortP bs).length := v2.length
      rw [this]
      unfold sortP
      rw [List.length_mergeSort]
      exact Nat.le_trans hl (by rw [sizeLine_eq]; decide)
  rcases hs with hs | hs
  · obtain ⟨its, rv, hl', hz⟩ := I.list hs
    obtain ⟨o, ho, hc, n, hd⟩ := hl'.isList
    exact main "list" o n its (.inl rfl) ho hc hd rv
  · obtain ⟨its, rv, ⟨o, ho, hc, n, hd⟩, _⟩ := I.tuple hs
    exact main "tuple" o n its (.inr rfl) ho hc hd rv
theorem call_sortP (C : X.K = e.K) (hu : X.A.units + 64 < cLine) : CallR X (.builtin "sorted") (rSortR e.K) := by rw [← C]; exact cr_sortR hu
def deP (b : SI) : D := .tup [.str b.1, .int b.2]
def prsD : List D → Option (List SI)
  | [] => some []
  | .tup [.str a, .int i] :: ds => (prsD ds).map ((a, i) :: ·)
  | _ => none
theorem prsD_eq : ∀ {ds : List D} {bs : List SI}, prsD ds = some bs → ds = bs.map deP := by
  intro ds
  induction ds with
  | nil => intro bs h; cases h; rfl
  | cons d ds ih =>
    intro bs h
    match d, h with
    | .tup [.str a, .int i], h =>
      obtain ⟨cs, h1, rfl⟩ := Option.map_eq_some_iff.mp (show (prsD ds).map ((a, i) :: ·) = some bs from h)
      rw [ih h1]
      rfl
theorem prsD_map : ∀ bs : List SI, prsD (bs.map deP) = some bs
  | [] => rfl
  | (a, i) :: bs => by
    show (prsD (bs.map deP)).map ((a, i) :: ·) = _
    rw [prsD_map bs]
    rfl
theorem each_dr {G : Hp} : ∀ {vs : List V} {bs : List SI}, DRs e G vs (bs.map deP) → PySem.W.EachIs (fun x b => DR e G x (deP b)) vs bs
  | _, [], h => by cases h; exact .nil
  | _, b :: bs, h => by
    cases h with
    | cons r t => exact .cons r (each_dr t)
theorem dr_each {G : Hp} : ∀ {vs : List V} {bs : List SI}, PySem.W.EachIs (fun x b => DR e G x (deP b)) vs bs → DRs e G vs (bs.map deP)
  | _, _, .nil => .nil
  | _, _, .cons r t => .cons r (dr_each t)
def sortPD : D → Option Sl
  | .lst xs => (prsD xs).bind fun bs => if bs.length ≤ 1000 then some (.ow false ((sortP bs).map deP)) else none
  | .tup xs => (prsD xs).bind fun bs => if bs.length ≤ 1000 then some (.ow false ((sortP bs).map deP)) else none
  | _ => none
theorem cg_sortP : CaG e (rSortR e.K) (one sortPD) := ca_one fun G H v d s Q g h hs q => by
  have fin : ∀ (b : Addr) (ws : List V) (xs : List D), v = .ref b → (SqL e.K H b ws ∨ SqT e.K H b ws) → DRs e G ws xs → (prsD xs).bind (fun bs => if bs.length ≤ 1000 then some (Sl.ow false ((sortP bs).map deP)) else none) = some s → rSortR e.K [v] H Q := fun b ws xs hv hk hr hs => by
    subst hv
    obtain ⟨bs, h1, h2⟩ := Option.bind_eq_some_iff.mp hs
    rw [prsD_eq h1] at hr
    by_cases c : bs.length ≤ 1000
    · rw [if_pos c] at h2
      cases h2
      have ed := each_dr hr
      refine ⟨b, ws, bs, _, rfl, hk, ed, ed.mono fun x b r => dp_of g _ _ _ r rfl, c, fun ys p he np => ?_⟩
      have := Gr.new_lst (e := e) g np (dr_each he)
      exact q _ _ _ this.1 this.2
    · rw [if_neg c] at h2
      cases h2
  cases d with
  | lst xs =>
    obtain ⟨b, ws, rfl, k1, k2⟩ := h.lst g
    exact fin b ws xs rfl (.inl (SqL.of k1)) k2 hs
  | tup xs =>
    obtain ⟨b, ws, rfl, k1, k2⟩ := h.tup g
    exact fin b ws xs rfl (.inr k1) k2 hs
  | _ => cases hs
/-! ### dict of pairs -/
def kvsD : List D → Option (List (Key × D))
  | [] => some []
  | .tup [.str k, d] :: ds => (kvsD ds).map ((.inr k, d) :: ·)
  | _ => none
def dictD : D → Option Sl
  | .lst xs => (kvsD xs).bind fun kvs => if (kvs.map (·.1)).Nodup then some (.fz (.dic kvs)) else none
  | _ => none
theorem put_new {kvs : List (Key × V)} {k : Key} {v : V} (h : ¬ k ∈ kvs.map (·.1)) : putK kvs k v = kvs ++ [(k, v)] := by
  unfold putK
  rw [if_neg]
  intro z
  obtain ⟨kv, h1, h2⟩ := List.any_eq_true.mp z
  exact h (List.mem_map.mpr ⟨kv, h1, of_decide_eq_true h2⟩)
theorem merge_new : ∀ (more kvs : List (Key × V)), ((kvs ++ more).map (·.1)).Nodup → mergeK kvs more = kvs ++ more
  | [], kvs, _ => by simp [mergeK]
  | kv :: more, kvs, h => by
    show mergeK (putK kvs kv.1 kv.2) more = _
    have h1 : ¬ kv.1 ∈ kvs.map (·.1) := by
      rw [List.map_append, List.nodup_append] at h
      intro z
      exact h.2.2 _ z _ (by simp) rfl
    rw [put_new h1, merge_new more (kvs ++ [(kv.1, kv.2)]) (by rw [List.append_assoc]; exact h), List.append_assoc]
    rfl
theorem kvs_of {G H : Hp} (g : L2.Same G H) : ∀ {ws : List V} {xs : List D} {kvs : List (Key × D)}, DRs e G ws xs → kvsD xs = some kvs → ∃ ps kv, ws = ps.map V.ref ∧ Paired (fun p (q : Key × V) => SqT e.K H p [kV q.1, q.2]) ps kv ∧ DRk e G kv kvs ∧ kv.map (·.1) = kvs.map (·.1) := by
  intro ws xs
  induction xs generalizing ws with
  | nil =>
    intro kvs h hk
    cases h
    cases hk
    exact ⟨[], [], rfl, .nil, .nil, rfl⟩
  | cons d xs ih =>
    intro kvs h hk
    match d, hk with
    | .tup [.str k, d], hk =>
      obtain ⟨cs, h1, rfl⟩ := Option.map_eq_some_iff.mp (show (kvsD xs).map ((.inr k, d) :: ·) = some kvs from hk)
      cases h with
      | @cons v _ ws _ r t =>
        obtain ⟨ps, kv, rfl, h2, h3, h4⟩ := ih t h1
        cases r with
        | @tup p vs _ hp hr =>
          cases hr with
          | cons r1 r2 =>
            cases r2 with
            | cons r3 r4 =>
              cases r4
              cases r1
              exact ⟨p :: ps, (.inr k, _) :: kv, rfl, .cons (Same.seqT g hp) h2, .cons r3 h3, by rw [List.map_cons, List.map_cons, h4]⟩
def rDictR (K : PySem.W.Frag) : List V → Hp → VK → Prop := fun xs H Q => ∃ (a : Addr) (ps : List Addr) (kvs : List (Key × V)), xs = [.ref a] ∧ SqL K H a (ps.map V.ref) ∧ Paired (fun p kv => SqT K H p [kV kv.1, kv.2]) ps kvs ∧
    ∀ p, H p = none → Q (.ref p) (upd H p (.dK (mergeK [] kvs)))
theorem call_dictU (C : X.K = e.K) (hc : X.calm = true) : CallR X (.type "dict") (rDictR e.K) := by rw [← C]; exact call_dictP hc
theorem cg_dict : CaG e (rDictR e.K) (one dictD) := ca_one fun G H v d s Q g h hs q => by
  cases d with
  | lst xs =>
    obtain ⟨b, ws, rfl, k1, k2⟩ := h.lst g
    obtain ⟨kvs, h1, h2⟩ := Option.bind_eq_some_iff.mp (show (kvsD xs).bind (fun kvs => if (kvs.map (·.1)).Nodup then some (Sl.fz (.dic kvs)) else none) = some s from hs)
    by_cases c : (kvs.map (·.1)).Nodup
    · rw [if_pos c] at h2
      cases h2
      obtain ⟨ps, kv, rfl, h3, h4, h5⟩ := kvs_of g k2 h1
      refine ⟨b, ps, kv, rfl, SqL.of k1, h3, fun p np => ?_⟩
      rw [merge_new kv [] (by rw [List.nil_append, h5]; exact c), List.nil_append]
      exact q _ _ _ (Gr.lay2 g np) (.dic upd_same (DRk.mono (same_upd (g.free np)) h4))
    · rw [if_neg c] at h2
      cases h2
  | _ => cases hs
/-! ### d[k] -/
def dgetD : D → D → Option Sl
  | .dic kvs, .str k => (kvs.find? fun kv => decide (kv.1 = .inr k)).map fun kv => .fz kv.2
  | _, _ => none
theorem DRk.find {G : Hp} {k : Key} : ∀ {kv : List (Key × V)} {kvs : List (Key × D)} {q : Key × D}, DRk e G kv kvs → kvs.find? (fun kv => decide (kv.1 = k)) = some q → ∃ v, valV kv k = some v ∧ DR e G v q.2
  | _, _, _, .nil, h => by cases h
  | _, _, q, @DRk.cons _ _ k' v vs d ds r t, h => by
    by_cases c : k' = k
    · rw [List.find?_cons_of_pos (by rw [decide_eq_true c])] at h
      cases h
      exact ⟨v, valV_pos c, r⟩
    · rw [List.find?_cons_of_neg (by rw [decide_eq_false c]; decide)] at h
      obtain ⟨w, h1, h2⟩ := DRk.find t h
      exact ⟨w, by rw [valV_neg c]; exact h1, h2⟩
def rDGet : R2 := fun x y H Q => ∃ a v, x = .ref a ∧ DGet H a y (some v) ∧ Q v H
theorem og_dget : OpG e rDGet dgetD := by
  intro G H x y d1 d2 s Q g h1 h2 hs q
  cases d1 with
  | dic kvs =>
    cases d2 with
    | str k =>
      cases h2.str
      obtain ⟨kq, h3, h4⟩ := Option.map_eq_some_iff.mp (show (kvs.find? fun kv => decide (kv.1 = .inr k)).map (fun kv => Sl.fz kv.2) = some s from hs)
      subst h4
      have dr := h1.dr fun _ z => nomatch z
      cases dr with
      | @dic a kv _ k1 k2 =>
        obtain ⟨v, h5, h6⟩ := DRk.find k2 h3
        refine ⟨a, v, rfl, ?_, q G H v (Gr.refl g) h6⟩
        have := DGet.k (k := .inr k) (g _ _ k1)
        rw [h5] at this
        exact this
    | _ => cases hs
  | _ => cases d2 <;> cases hs
theorem xx_dget {a b : Expr} {W : WX} {fa fb : Mo Ar} {pos : Pos} (hu : X.A.units + 64 < cLine) (ha : PE X a (tO e W fa)) (hb : PE X b (tO e W fb)) (hs : NoSl b) : PE X (.Subscript a b pos) (tX e W (binX dgetD fa fb)) :=
  (pe_dget (by omega) ha hb hs).imp fun _ _ _ h => bin_core og_dget h
end
end L2.WD
/-! The data layer, part 34: a call by two own lists that have no names. -/
namespace L2.WD
open PySem PySem.Spec PySem.Calls PyProof.Rows
section
variable {X : Cx} {e : Ev} {W : WX} {Fo G H : Hp} {σ : St} {ρ : List Sl}
theorem Val.push {v w : V} {s t : Sl} (l : σ.length = ρ.length) (r : Val e Fo G σ H ρ w t) (ne : s.owned = true → t.owned = true → v ≠ w) : Val e Fo G (σ ++ [some v]) H (ρ ++ [s]) w t := by
  refine ⟨r.1, r.2.1, fun ho b i u hb hi hu hv => ?_⟩
  by_cases c : i < ρ.length
  · rw [List.getElem?_append_left c] at hi
    rw [List.getElem?_append_left (by omega)] at hv
    exact r.2.2 ho b i u hb hi hu hv
  · by_cases c2 : i = ρ.length
    · subst c2
      rw [List.getElem?_append_right (Nat.le_refl _), Nat.sub_self] at hi
      rw [List.getElem?_append_right (by omega), show ρ.length - σ.length = 0 by omega] at hv
      simp only [List.getElem?_cons_zero, Option.some.injEq] at hi hv
      subst hi
      exact ne hu ho (hv.trans hb.symm)
    · rw [List.getElem?_eq_none (by simp; omega)] at hi
      cases hi
theorem pop_key {x : V} {s0 : Sl} {r : Re Sl} {Q : VK} (l : σ.length = ρ.length) (p : Post e W ValL Fo G σ ρ (popR ρ.length r) Q) : Post e (fun cls od _ H => W cls od σ H) ValL Fo G (σ ++ [some x]) (ρ ++ [s0]) r Q := by
  cases r with
  | bad => exact p
  | exc ρ3 c fs =>
    intro G3 H3 cls od g3 k3 R4 xx
    refine p G3 H3 cls od g3 (keep_push k3) ?_ xx
    have := R4.pop
    rw [l] at this
    exact this
  | ok ρ3 s =>
    intro G3 H3 v g3 k3 R4 hv
    have rp := R4.pop
    rw [l] at rp
    refine p G3 H3 v g3 (keep_push k3) rp ⟨hv.1, hv.2.1, fun ho b i t eb hi ht hs => ?_⟩
    have hi' : ρ3[i]? = some t := by
      by_cases c : i < ρ.length
      · rw [List.getElem?_take_of_lt c] at hi; exact hi
      · rw [List.getElem?_eq_none (by simp; omega)] at hi; cases hi
    have c : i < σ.length := by
      by_cases c : i < σ.length
      · exact c
      · rw [List.getElem?_eq_none (by omega)] at hs; cases hs
    exact hv.2.2 ho b i t eb hi' ht (by rw [List.getElem?_append_left c]; exact hs)
/-- f(x, y), both lists without a name -/
def callQ (F : Mo Sl) (f2 : Mo (Sl × Sl)) : Mo Sl := Mo.bind f2 fun ss ρ => popR ρ.length (popR (ρ ++ [ss.1]).length (appF F [] [.sl ρ.length, .sl (ρ.length + 1)] (ρ ++ [ss.1] ++ [ss.2])))
theorem callQ_core {F : Mo Sl} {f2 : Mo (Sl × Sl)} {H : Hp} {Q : VK} (h : tX e W (callQ F f2) σ H Q) : tCallSD (spD e 2 F) [] (WE W) (tG e W V2 f2) σ H Q := by
  obtain ⟨Fo, G0, ρ, R, p⟩ := h
  refine ⟨Fo, G0, ρ, R, ?_⟩
  unfold callQ Mo.bind at p
  cases q : f2 ρ with
  | exc ρ2 c fs => rw [q] at p; exact p
  | bad => rw [q] at p; exact p
  | ok ρ1 ss =>
    rw [q] at p
    intro G1 H1 vs g1 k1 R1 ⟨x, y, ev, rx, ry, ne⟩
    subst ev
    have p1 : Post e W ValL Fo G1 σ ρ1 (popR ρ1.length (popR (ρ1 ++ [ss.1]).length (appF F [] [.sl ρ1.length, .sl (ρ1.length + 1)] (ρ1 ++ [ss.1] ++ [ss.2])))) Q := p.from g1 k1
    have lσ : σ.length = ρ1.length := R1.len
    have R3 := R1.push rx
    have R4 := R3.push (ry.push lσ ne)
    have p2 := pop_key (x := x) (s0 := ss.1) lσ p1
    have p3 := pop_key (x := y) (s0 := ss.2) (by rw [List.length_append, List.length_append, lσ]; rfl) p2
    have ra : ArRs e G1 (σ ++ [some x] ++ [some y]) [x, y] [.sl ρ1.length, .sl (ρ1.length + 1)] := .cons (show (σ ++ [some x] ++ [some y])[ρ1.length]? = _ by rw [← lσ]; simp) (.cons (show (σ ++ [some x] ++ [some y])[ρ1.length + 1]? = _ by rw [← lσ]; simp) .nil)
    have := app_core (W := fun cls od _ H => W cls od σ H) (m := 2) (more := []) (ws := []) R4 ra .nil rfl p3
    exact this
variable {N : List Str} {sc : Scope} {x : Str} {pos : Pos} {a b : Expr} {f2 : Mo (Sl × Sl)}
theorem xcq {P : Program} {w : World} {base : Heap} {d : He.DefD} {k k0 : Nat} {ps : List Str} {Fn : Mo Sl} {fd : FuncData} {p : Pos}
    (C : EC X e W) (T : At X P w base) (r : Room k0 X.A) (F : CF X N sc) (O : Ok P w e base d k ps Fn fd) (bb : ∃ ds, Vals [] ds ∧ Binds e.K fd ps ds) (hm : e.mg x = some (.ref (He.fAd e.K d.at_))) (hk : k ≤ k0) (hg : glB sc x = true)
    (ha : PA X [a, b] (tG e W V2 f2)) (hl : ps.length = 2) (he : starEach [a, b] X.env = (false, eval a X.env) :: starEach [b] X.env := by rfl) (hpl : (backTo pos (starEach [b] X.env)).any (·.1) = false := by rfl) :
    PE X (.Call (.Name x p) [a, b] [] pos) (tX e W (callQ Fn f2)) := by
  obtain ⟨ds, hv, hb⟩ := bb
  have Fk := O.at C T
  rw [hl] at Fk
  exact (pe_callSD Fk (r.mono hk) (F.g hg) (C.gm hm) (by rw [C.K]; exact O.fd.kp) (by rw [C.K]; exact hb) hv (fun σ => passAt C.tk σ) ha (dbg hg) he hpl).imp fun _ _ _ h => callQ_core h
end
end L2.WD
/-! The data layer, part 35: divmod by a wider divisor. -/
namespace L2.WD
open PySem PySem.Spec PySem.Calls PyProof.Rows
theorem small_div {i j : Int} (h : j.natAbs.log2 < 9000) : Builtin.divisionGoesByPylong i j = false := by
  show (decide ((if j == 0 then 0 else j.natAbs.log2 / 30 + 1) > 300) && _) = false
  have : ¬ ((if j == 0 then 0 else j.natAbs.log2 / 30 + 1) > 300) := by
    split <;> omega
  rw [decide_eq_false this]
  rfl
def divmodWD : D → D → Option Sl
  | .int i, .int j => if 0 < j ∧ j.natAbs.log2 < 9000 then some (.fz (.tup [.int (i / j), .int (i % j)])) else none
  | _, _ => none
section
variable {X : Cx} {e : Ev}
theorem cg_divmodW : CaG e (fun xs H Q => ∃ i j, xs = [.int i, .int j] ∧ CDivP i j ∧ ∀ p, H p = none → Q (.ref p) (upd H p (.tup [.int (i / j), .int (i % j)]))) (two divmodWD) := ca_two fun G H v w d d2 s Q g h h2 hs q => by
  cases d with
  | int i =>
    cases d2 with
    | int j =>
      cases h.int
      cases h2.int
      simp only [divmodWD] at hs
      by_cases c : 0 < j ∧ j.natAbs.log2 < 9000
      · rw [if_pos c] at hs
        cases hs
        refine ⟨i, j, rfl, ⟨c.1, small_div c.2⟩, fun p np => ?_⟩
        have := Gr.new_tup (e := e) g np (.cons (.int (i / j)) (.cons (.int (i % j)) .nil))
        exact q _ _ _ this.1 this.2
      · rw [if_neg c] at hs
        cases hs
    | _ => cases hs
  | _ => cases d2 <;> cases hs
end
theorem divmodW_eq {i j : Int} (h0 : 0 < j) (h : j < 4294967296) : divmodWD (.int i) (.int j) = some (.fz (.tup [.int (i / j), .int (i % j)])) := by
  have : j.natAbs.log2 < 9000 := by
    have : j.natAbs.log2 < 32 := (Nat.log2_lt (by omega)).mpr (by omega)
    omega
  show (if 0 < j ∧ j.natAbs.log2 < 9000 then some (Sl.fz (.tup [.int (i / j), .int (i % j)])) else none) = _
  rw [if_pos ⟨h0, this⟩]
end L2.WD
/-! The data layer, part 36: repr. -/
namespace L2.WD
open PySem PySem.Spec PyProof.Rows
-- what is shown: data, and the dict of nobody
mutual
def rpPy : D → Option PyData
  | .non => some .none
  | .bl b => some (.bool b)
  | .int i => some (.int i)
  | .str s => some (.str s)
  | .lst xs => (rpPys xs).map .list
  | .tup xs => (rpPys xs).map .tuple
  | .dic [] => some (.dict [])
  | _ => none
def rpPys : List D → Option (List PyData)
  | [] => some []
  | d :: ds => match rpPy d, rpPys ds with
    | some p, some ps => some (p :: ps)
    | _, _ => none
end
mutual
/-- no list in it -/
def noL : PyData → Bool
  | .list _ => false
  | .tuple xs => noLs xs
  | _ => true
def noLs : List PyData → Bool
  | [] => true
  | x :: xs => noL x && noLs xs
end
section
variable {X : Cx} {e : Ev} {pins : List (Addr × Obj)} {σ : St} {H G : Hp} {s : Shared}
/-- how a thing reads -/
def RdsV (h : Heap) (u : Value) (p : PyData) : Prop := ∃ as, Reads h u p as ∧ (noL p = true → sysModules ∉ as)
def RdsVs (h : Heap) (us : List Value) (ps : List PyData) : Prop := ∃ as, ReadsAll h us ps as ∧ (noLs ps = true → sysModules ∉ as)
theorem RdsV.lst {a : Addr} {ps : List PyData} {xs : List V} (I : Inv X pins σ H s) (hs : SqL X.K H a xs) (h : ∀ us, Vals xs us → RdsVs s.heap us ps) : RdsV s.heap (.ref a) (.list ps) := by
  obtain ⟨its, rv, ⟨o, n, ho, hc, _, hd⟩, _⟩ := I.list hs
  obtain ⟨as, r, _⟩ := h its rv
  exact ⟨_, .list ho hc hd r, fun z => nomatch z⟩
theorem RdsV.tup {a : Addr} {ps : List PyData} {xs : List V} (I : Inv X pins σ H s) (hs : SqT X.K H a xs) (h : ∀ us, Vals xs us → RdsVs s.heap us ps) : RdsV s.heap (.ref a) (.tuple ps) := by
  obtain ⟨its, rv, ⟨o, ho, hc, n, hd⟩, _⟩ := I.tuple hs
  obtain ⟨as, r, q⟩ := h its rv
  exact ⟨_, .tuple ho hc hd r, fun z => q (by simpa only [noL] using z)⟩
theorem RdsV.dic {a : Addr} (I : Inv X pins σ H s) (ha : H a = some (.dK [])) : RdsV s.heap (.ref a) (.dict []) := by
  obtain ⟨_, h2, vs, h3, o, es, ep, h4, h5, h6, _, h7, _⟩ := dk_of I.hok ha
  cases h3
  have h8 : es.toList = [] := by
    generalize es.toList = l at h7
    cases h7
    rfl
  refine ⟨a :: [] ++ [], .dict (n := ep) (es := es) h4 h5.1 h6 ?_ ?_, fun _ z => ?_⟩
  · rw [h8]
    exact .nil
  · rw [h8]
    exact .nil
  · simp only [List.cons_append, List.nil_append, List.mem_singleton] at z
    rw [← z] at h2
    simp at h2
mutual
theorem rds_of (C : X.K = e.K) (I : Inv X pins σ H s) (g : L2.Same G H) : ∀ (d : D) (v : V) (p : PyData) (u : Value), DR e G v d → rpPy d = some p → RelV v u → RdsV s.heap u p
  | .non, _, _, u, h, t, r => by
    cases h; cases t; cases r
    exact ⟨_, .none, fun _ z => nomatch z⟩
  | .bl b, _, _, u, h, t, r => by
    cases h; cases t; cases r
    exact ⟨_, .bool b, fun _ z => nomatch z⟩
  | .int i, _, _, u, h, t, r => by
    cases h; cases t
    obtain ⟨k, rfl⟩ := r
    exact ⟨_, .int i k, fun _ z => nomatch z⟩
  | .str x, _, _, u, h, t, r => by
    cases h; cases t
    obtain ⟨k, rfl⟩ := r
    exact ⟨_, .str x k, fun _ z => nomatch z⟩
  | .lst xs, _, _, u, h, t, r => by
    unfold rpPy at t
    obtain ⟨ps, t1, t2⟩ := Option.map_eq_some_iff.mp t
    subst t2
    cases h with
    | lst h1 h2 =>
      cases r
      exact RdsV.lst I (SqL.of (g _ _ h1)) fun us hv => rdss_of C I g xs _ ps us h2 t1 hv
  | .tup xs, _, _, u, h, t, r => by
    unfold rpPy at t
    obtain ⟨ps, t1, t2⟩ := Option.map_eq_some_iff.mp t
    subst t2
    cases h with
    | tup h1 h2 =>
      cases r
      exact RdsV.tup I (by rw [C]; exact Same.seqT g h1) fun us hv => rdss_of C I g xs _ ps us h2 t1 hv
  | .dic [], _, _, u, h, t, r => by
    cases t
    cases h with
    | dic h1 h2 =>
      cases h2
      cases r
      exact RdsV.dic I (g _ _ h1)
  | .dic (_ :: _), _, _, _, _, t, _ => by cases t
  | .obj _ _, _, _, _, _, t, _ => by cases t
  | .exc _ _, _, _, _, _, t, _ => by cases t
  | .cls _, _, _, _, _, t, _ => by cases t
  | .fn _, _, _, _, _, t, _ => by cases t
  | .ty _, _, _, _, _, t, _ => by cases t
  | .scr _, _, _, _, _, t, _ => by cases t
theorem rdss_of (C : X.K = e.K) (I : Inv X pins σ H s) (g : L2.Same G H) : ∀ (ds : List D) (vs : List V) (ps : List PyData) (us : List Value), DRs e G vs ds → rpPys ds = some ps → Vals vs us → RdsVs s.heap us ps
  | [], _, _, us, h, t, r => by
    cases h; cases t; cases r
    exact ⟨_, .nil, fun _ z => nomatch z⟩
  | d :: ds, _, _, us, h, t, r => by
    cases h with
    | cons h1 h2 =>
      unfold rpPys at t
      cases q1 : rpPy d with
      | none => simp only [q1] at t; cases t
      | some p =>
        cases q2 : rpPys ds with
        | none => simp only [q1, q2] at t; cases t
        | some ps =>
          simp only [q1, q2] at t
          cases t
          cases r with
          | cons r1 r2 =>
            obtain ⟨as, k1, k2⟩ := rds_of C I g d _ p _ h1 q1 r1
            obtain ⟨bs, k3, k4⟩ := rdss_of C I g ds _ ps _ h2 q2 r2
            refine ⟨_, .cons k1 k3, fun z hm => ?_⟩
            have z' : noL p = true ∧ noLs ps = true := by simpa [noLs] using z
            rcases List.mem_append.mp hm with hm | hm
            · exact k2 z'.1 hm
            · exact k4 z'.2 hm
end
theorem rds_co (C : X.K = e.K) (I : Inv X pins σ H s) (g : L2.Same G H) {d : D} {v : V} {p : PyData} {u : Value} (h : CoR e G H v d) (t : rpPy d = some p) (r : RelV v u) : RdsV s.heap u p := by
  cases h with
  | st h => exact rds_of C I g d v p u h t r
  | ow h1 h2 =>
    unfold rpPy at t
    obtain ⟨ps, t1, t2⟩ := Option.map_eq_some_iff.mp t
    subst t2
    cases r
    exact RdsV.lst I (SqL.of h1) fun us hv => rdss_of C I g _ _ ps us h2 t1 hv
/-- what may be shown -/
def rpB (p : PyData) : Bool := p.showable && decide (p.shown.length ≤ sizeLine) && (!p.hasDict || noL p) && decide (p.depth ≤ 60)
def reprD (d : D) : Option Sl := match rpPy d with
  | some p => if rpB p = true then some (.fz (.str p.shown)) else none
  | none => none
def rRepr (X : Cx) : List V → Hp → VK → Prop := fun vs H Q => ∃ v p, vs = [v] ∧ rpB p = true ∧ (∀ (pins : List (Addr × Obj)) (σ : St) (s : Shared) (u : Value), Inv X pins σ H s → RelV v u → RdsV s.heap u p) ∧ Q (.str p.shown) H
theorem call_reprG (gd : X.A.guards = some []) (hu : X.A.units + 64 < cLine) : CallR X (.builtin "repr") (rRepr X) := by
  intro pins s σ H xs us Q I r h
  obtain ⟨v, p, rfl, hb, hr, q⟩ := h
  obtain ⟨u, rfl, ru⟩ := vals1 r
  obtain ⟨as, rd, hm⟩ := hr pins σ s u I ru
  unfold rpB at hb
  simp only [Bool.and_eq_true, decide_eq_true_eq, Bool.or_eq_true, Bool.not_eq_true'] at hb
  obtain ⟨⟨⟨b1, b2⟩, b3⟩, b4⟩ := hb
  have hsm : p.hasDict = true → sysModules ∉ as := fun z => hm (by
    rcases b3 with b3 | b3
    · rw [z] at b3; cases b3
    · exact b3)
  cases rd with
  | none => exact PySem.P.repr_of_none ⟨.str _, H, I.tok _, ⟨_, rfl⟩, q⟩
  | bool b => exact PySem.P.repr_of_bool ⟨.str _, H, I.tok _, ⟨_, rfl⟩, by simpa only [PyData.shown] using q⟩
  | int i t => exact PySem.P.repr_of_int (by simpa [PyData.showable] using b1) ⟨.str _, H, I.tok _, ⟨_, rfl⟩, by simpa only [PyData.shown] using q⟩
  | str x t => exact PySem.P.repr_of_str ⟨.str _, H, I.tok _, ⟨_, rfl⟩, by simpa only [PyData.shown] using q⟩ (by simpa only [PyData.shown] using b2)
  | _ =>
    refine repr_of_reads' (h₀ := s.heap) (by first | exact .list ‹_› ‹_› ‹_› ‹_› | exact .tuple ‹_› ‹_› ‹_› ‹_› | exact .dict ‹_› ‹_› ‹_› ‹_› ‹_›) b1 hsm gd (by omega) (fun _ _ z => z) (fun h' u tk hk => ?_) b2
    exact ⟨.str _, H, I.kept (t' := tk) hk, ⟨_, rfl⟩, q⟩
theorem og_repr (C : X.K = e.K) : CaG e (rRepr X) (one reprD) := ca_one fun G H v d s Q g h hs q => by
  unfold reprD at hs
  cases q1 : rpPy d with
  | none => simp only [q1] at hs; cases hs
  | some p =>
    simp only [q1] at hs
    by_cases c : rpB p = true
    · rw [if_pos c] at hs
      cases hs
      exact ⟨v, p, rfl, c, fun pins σ s u I r => rds_co C I g h q1 r, q G H _ (Gr.refl g) (.str _)⟩
    · rw [if_neg c] at hs
      cases hs
end
end L2.WD
/-! The data layer, part 37: defs that are called where nothing is being shown (no guard stands). -/
namespace L2.WD
open PySem PySem.Spec PySem.Calls PyProof.Rows
/-- no guard stands -/
def NoG (A : Around) : Prop := A.guards = some []
/-- a promise that is kept where no guard stands -/
structure FnG (P : Program) (w : World) (K : PySem.W.Frag) (mg : Str → Option Value) (base : Heap) (CX : CXT) (k : Nat) (f : Addr) (fd : FuncData) (ps : List Str) (sp : Sp) : Prop where
  many : ∀ xs T J Z, sp xs T J Z → xs.length = ps.length
  go : ∀ (B : Around) (up : List Env) (t : Shared) (T : Hp) (args : Args) (gs : List Value) (xs : List V) (J : VK) (Z : XK), NoG B → Room k B → Env0 P w K mg base B up t T → BindsTo t fd args (ps.zip gs) → Vals xs gs → sp xs T J Z →
    codeAny (model P w) B (.call (.ref f) args) (CR CX up P w T t J Z) t
theorem FnG.of {P : Program} {w : World} {K : PySem.W.Frag} {mg : Str → Option Value} {base : Heap} {CX : CXT} {k : Nat} {f : Addr} {fd : FuncData} {ps : List Str} {sp : Sp} (F : FnOk P w K mg base CX k f fd ps sp) : FnG P w K mg base CX k f fd ps sp :=
  ⟨F.len, fun B up t T args gs xs J Z _ hr => F.run B up t T args gs xs J Z hr⟩
theorem FnG.mono {P : Program} {w : World} {K : PySem.W.Frag} {mg : Str → Option Value} {base : Heap} {CX : CXT} {j k : Nat} {f : Addr} {fd : FuncData} {ps : List Str} {sp : Sp} (F : FnG P w K mg base CX j f fd ps sp) (h : j ≤ k) : FnG P w K mg base CX k f fd ps sp :=
  ⟨F.many, fun B up t T args gs xs J Z hn hr => F.go B up t T args gs xs J Z hn (hr.mono h)⟩
section
variable {P : Program} {w : World} {e : Ev} {base : Heap} {x qual : Str} {params : Arguments} {body : List Stmt} {scope : Scope} {dvs : List V} {kws : List (Str × V)} {f : Addr} {fd : FuncData}
/-- the rule for a def, by its body at every place where no guard stands -/
theorem fnG_of {CX : CXT} {K : PySem.W.Frag} {mg : Str → Option Value} {N ps : List Str} {k : Nat} {sp : Sp} (F : FunD K x qual params body scope dvs kws f fd) (S : FnScope N ps scope) (len : ∀ xs T J Z, sp xs T J Z → xs.length = ps.length)
    (hb : ∀ (cdv : Value) (B : Around) (up : List Env) (t : Shared) (T : Hp) (xs : List V) (J : VK) (Z : XK), NoG B → Room k (B.deeper (envOfC qual scope t.heap.objs.size f cdv)) → sp xs T J Z →
      ∃ tr, PSs (cxOf CX P w K mg base N qual scope f cdv B up t T Z) body tr ∧ tr { nx := fun _ T' => J .non T', rt := J } (start N xs) T) : FnG P w K mg base CX (k + 1) f fd ps sp := by
  obtain ⟨_, _, _, _, _, _, _, cdv, _, _, rfl, look, code, _⟩ := F.ex
  refine ⟨len, ?_⟩
  intro B up t T args gs xs J Z ng room e0 bind rel spec
  obtain ⟨tr, run, want⟩ := hb cdv B up t T xs J Z ng (room.deeper _) spec
  have whole : K.In t.heap := PySem.W.Frag.In.keeps e0.mod.kin fun b o z => (e0.bs b o z).1
  have free : t.heap.NoLimit := Heap.NoLimit.keeps e0.mod.nolimit fun b o z => (e0.bs b o z).1
  refine codeAny_call_function room.depth (whole _ _ look) rfl S.co S.gen rfl (PySem.W.codeRec_of whole code) (bind _ _ _ _ ?_)
  refine wpAny_newFunctionEnv_cells S.kind ?_ ?_
  · rintro ⟨n, v⟩ hm
    have hn := S.par n (List.of_mem_zip hm).1
    exact hn.imp id fun q => ⟨q, PySem.W.cellsFrom_some _ _ _ (.inl q)⟩
  · rintro env rfl t1 made
    refine ⟨free.keeps made.toInCall.keep, codeAny_func (wpAny_mono (run.run [] t1 _ T _ (inv_start S room.hd e0 (len _ _ _ _ spec) rel made) want) ?_ fun _ _ z => z)⟩
    have fin : ∀ {σ' : St} {T' : Hp} {v : V} {u : Value} {t' : Shared}, Inv (cxOf CX P w K mg base N qual scope f cdv B up t T Z) [] σ' T' t' → RelV v u → J v T' → CE up P w T t J u t' := by
      intro σ' T' v u t' I r j
      exact ⟨v, T', I.os, I.bare, I.base, I.hok, r, j⟩
    rintro (_ | _ | _ | u) t' hz
    · obtain ⟨_, _, I, j⟩ := hz
      exact fin (v := V.non) (u := Value.none) I rfl j
    · obtain ⟨_, _, _, j⟩ := hz
      exact j.elim
    · obtain ⟨_, _, _, j⟩ := hz
      exact j.elim
    · obtain ⟨_, _, _, I, r, j⟩ := hz
      exact fin I r j
theorem fnG_ok {N ps : List Str} {k : Nat} {g : So} (F : FunD e.K x qual params body scope dvs kws f fd) (S : FnScope N ps scope)
    (hbody : ∀ (X : Cx) (W : WX), EC X e W → X.calm = true → X.prog = P → X.w = w → X.base = base → NoG X.A → Room k X.A → (∃ (cdv : Value) (A : Around) (outer : List Env) (s : Shared) (H : Hp) (E : XK), X = cxOf (L2.CX P w) P w e.K e.mg base N qual scope f cdv A outer s H E) → PSs X body (tS e W g)) :
    FnG P w e.K e.mg base (L2.CX P w) (k + 1) f fd ps (spD e ps.length (bodyF N.length g)) := by
  refine fnG_of F S (fun vs H Q E h => h.1) fun cdv A outer s H vs Q E hn hr h => ?_
  refine ⟨tS e (WK E) g, hbody _ (WK E) ⟨rfl, rfl, S.nd, takes_of rfl rfl rfl rfl, passes_of rfl⟩ rfl rfl rfl rfl hn hr ⟨cdv, A, outer, s, H, E, rfl⟩, ?_⟩
  obtain ⟨_, Fo, G, as, R, p⟩ := h
  refine ⟨Fo, G, _, R.entry (N := N), ?_⟩
  unfold bodyF at p
  cases q : g (as.map give ++ List.replicate (N.length - as.length) Sl.no) with
  | nx ρ =>
    rw [q] at p
    intro G' σ' H' g1 k1 R1
    obtain ⟨f1, f2, f3⟩ := exit_facts R g1 k1 R1
    exact p G' H' .non g1 f1 f2 (.fz .non)
  | rt ρ s =>
    rw [q] at p
    intro G' σ' H' v g1 k1 R1 hv
    obtain ⟨f1, f2, f3⟩ := exit_facts R g1 k1 R1
    exact p G' H' v g1 f1 f2 (f3 v s hv)
  | exc ρ c fs =>
    rw [q] at p
    intro G' σ' H' cls od g1 k1 R1 x
    obtain ⟨f1, f2, f3⟩ := exit_facts R g1 k1 R1
    exact p G' H' cls od g1 f1 f2 x
  | bk ρ => rw [q] at p; exact p.elim
  | ct ρ => rw [q] at p; exact p.elim
  | bad => rw [q] at p; exact p.elim
end
/-! ### calls -/
section
variable {X : Cx} {CX : CXT} {k : Nat} {f : Addr} {fd : FuncData} {ps : List Str} {sp : Sp} {dvs : List V} {ds : List Value} {Z : St → XK} {x : Str} {p pos : Pos} {a : Expr} {es : List Expr} {t : TA} {e : Ev} {W : WX}
theorem pe_callG (gd : NoG X.A) (Fk : FnG X.prog X.w X.K X.mg X.base CX k f fd ps sp) (hr : Room k X.A) (hg : Gl X x) (hm : X.mg x = some (.ref f)) (hk : PySem.W.keepIn X.K (.ref f) = true) (hb : Binds X.K fd ps ds) (hd : Vals dvs ds) (hx : ∀ σ, PassesAt CX X σ (Z σ))
    (ha : PA X (a :: es) t) (hdb : (x == ("__debug__" : Str)) = false := by decide) (he : starEach (a :: es) X.env = (false, eval a X.env) :: starEach es X.env := by rfl) (hpl : (backTo pos (starEach es X.env)).any (·.1) = false := by rfl) :
    PE X (.Call (.Name x p) (a :: es) [] pos) (tCallSD sp dvs Z t) := by
  constructor
  intro pins s σ H Q I h
  refine wpAny_Call_Name_kw (ld_glob I hg hm ?_ hdb)
  refine PySem.W.callWith_K (h₀ := X.base) I.ok.mod.kin hk (thn (ha.run pos pins s σ H _ I h) ?_) he hpl
  rintro us s1 ⟨vs, H1, I1, r, q⟩
  refine ⟨I1.kIn, wpAny_call (codeAny_mono (Fk.go X.A X.stack s1 H1 ⟨us, []⟩ (us ++ ds) (vs ++ dvs) Q (Z σ) gd hr I1.env0 (hb s1 us I1.kIn ?_) (r.append hd) q) ?_)⟩
  · have := Fk.many _ _ _ _ q
    rw [← (r.append hd).length]
    exact this
  · rintro (z | z) s' hq
    · exact hx σ pins H1 s1 z s' I1 hq
    · cases z with
      | ret u => exact I1.after hq
      | _ => exact False.elim hq
theorem xx_callG {fa : Mo (List Ar)} {F : Mo Sl} {more : List D} {m : Nat} (gd : NoG X.A) (C : EC X e W) (Fk : FnG X.prog X.w X.K X.mg X.base (L2.CX X.prog X.w) k f fd ps (spD e m F)) (hr : Room k X.A) (hg : Gl X x) (hm : X.mg x = some (.ref f)) (hk : PySem.W.keepIn X.K (.ref f) = true) (hb : Binds X.K fd ps ds) (hd : Vals dvs ds) (hdd : ∀ G, DRs e G dvs more)
    (ha : PA X (a :: es) (tA e W fa)) (hn : ∀ ρ ρ' as, fa ρ = .ok ρ' as → as.length + more.length = m) (hdb : (x == ("__debug__" : Str)) = false := by decide) (he : starEach (a :: es) X.env = (false, eval a X.env) :: starEach es X.env := by rfl) (hpl : (backTo pos (starEach es X.env)).any (·.1) = false := by rfl) :
    PE X (.Call (.Name x p) (a :: es) [] pos) (tX e W (callX F more fa)) := (pe_callG gd Fk hr hg hm hk hb hd (fun σ => passAt C.tk σ) ha hdb he hpl).imp fun _ _ _ h => call_core hdd hn h
/-- a def that keeps its promise where no guard stands -/
structure OkG (P : Program) (w : World) (e : Ev) (base : Heap) (d : He.DefD) (k : Nat) (ps : List Str) (F : Mo Sl) (fd : FuncData) : Prop where
  fn : FnG P w e.K e.mg base (L2.CX P w) k (He.fAd e.K d.at_) fd ps (spD e ps.length F)
  fd : FunD e.K d.name d.qual d.params d.body d.scope (d.dvs e.K) (d.kws e.K) (He.fAd e.K d.at_) fd
theorem OkG.of {P : Program} {w : World} {base : Heap} {d : He.DefD} {k : Nat} {ps : List Str} {Fn : Mo Sl} {fd : FuncData} (O : Ok P w e base d k ps Fn fd) : OkG P w e base d k ps Fn fd := ⟨.of O.fn, O.fd⟩
theorem OkG.at {P : Program} {w : World} {base : Heap} {d : He.DefD} {k : Nat} {ps : List Str} {Fn : Mo Sl} {fd : FuncData} (O : OkG P w e base d k ps Fn fd) (C : EC X e W) (T : At X P w base) :
    FnG X.prog X.w X.K X.mg X.base (L2.CX X.prog X.w) k (He.fAd e.K d.at_) fd ps (spD e ps.length Fn) := by
  rw [T.p, T.w, T.b, C.K, C.mg]
  exact O.fn
theorem xcG {N : List Str} {sc : Scope} {P : Program} {w : World} {base : Heap} {d : He.DefD} {k k0 : Nat} {ps : List Str} {Fn : Mo Sl} {fd : FuncData} {dvs : List V} {more : List D} {fa : Mo (List Ar)} {n : Nat}
    (gd : NoG X.A) (C : EC X e W) (T : At X P w base) (r : Room k0 X.A) (F : CF X N sc) (O : OkG P w e base d k ps Fn fd) (b : ∃ ds, Vals dvs ds ∧ Binds e.K fd ps ds) (hm : e.mg x = some (.ref (He.fAd e.K d.at_))) (hk : k ≤ k0) (hg : glB sc x = true) (hdd : ∀ G, DRs e G dvs more)
    (ha : PA X (a :: es) (tA e W fa)) (hn : LenA fa n) (hl : n + more.length = ps.length) (he : starEach (a :: es) X.env = (false, eval a X.env) :: starEach es X.env := by rfl) (hpl : (backTo pos (starEach es X.env)).any (·.1) = false := by rfl) :
    PE X (.Call (.Name x p) (a :: es) [] pos) (tX e W (callX Fn more fa)) := by
  obtain ⟨ds, hv, hb⟩ := b
  exact xx_callG (m := ps.length) gd C (O.at C T) (r.mono hk) (F.g hg) (C.gm hm) (by rw [C.K]; exact O.fd.kp) (by rw [C.K]; exact hb) hv hdd ha (callLen hn hl) (dbg hg) he hpl
theorem gdY {Y : Cx} {scope : Scope} (r : NoG X.A) (hY : ∃ (s : Shared) (H : Hp) (Cc : Addr) (cl : List (Str × Addr)) (fp : List Addr), Y = X.blk s H scope (compEnvC scope cl Cc X.env) fp) : NoG Y.A := by
  obtain ⟨s, H, Cc, cl, fp, rfl⟩ := hY
  exact r
/-- repr of a thing -/
theorem xx_repr {N : List Str} {sc : Scope} {k : Nat} {fa : Mo (List Ar)} (gd : NoG X.A) (C : EC X e W) (r : Room k X.A) (F : CF X N sc) (hm : e.mg ("repr" : Str) = none) (hg : glB sc ("repr" : Str) = true) (ha : PA X [a] (tA e W fa)) (hs : starEach [a] X.env = (false, eval a X.env) :: starEach [] X.env := by rfl) :
    PE X (.Call (.Name ("repr" : Str) p) [a] [] pos) (tX e W (caX (one reprD) fa)) := xx_callB (call_reprG gd (roomU r)) (og_repr C.K) (F.g hg) (C.gm hm) (by rfl) ha (by decide) (dbg hg) hs (by rfl)
end
/-! ### the law -/
theorem fnG_any {P : Program} {w : World} {K : PySem.W.Frag} {mg : Str → Option Value} {base : Heap} {k : Nat} {f : Addr} {fd : FuncData} {ps : List Str} {sp : Sp} (F : FnG P w K mg base (L2.CX P w) k f fd ps sp) : FnG P w K mg base (CXa P) k f fd ps sp :=
  ⟨F.many, fun B up t T args gs xs J Z hn hr he hb hv hs => codeAny_mono (F.go B up t T args gs xs J Z hn hr he hb hv hs) fun r s' h => by
    cases r with
    | ok v => cases v <;> exact h
    | error u => exact ⟨w, h⟩⟩
/-- the heap in which the script alone is told -/
theorem script_heap {P : Program} {w : World} {K : PySem.W.Frag} {h : Heap} {a : Addr} {us : List Value} {ns : List Int} (KX : K.In h) (ha : h.get? a = some { cls := .type "list", data := .seq us.toArray }) (hi : IntsAre us ns) (hl : ns.length ≤ sizeLine) :
    ∃ T : Hp, Only T ∧ SqL K T a (ns.map V.int) ∧ HOk P w T h ∧ ∀ b, T b ≠ none → b = a ∧ K.lookup b = none := by
  have rel : Vals (ns.map V.int) us := vals_ints hi
  have len : us.length = ns.length := hi.length
  cases q : K.lookup a with
  | some o =>
    have := KX a o q
    rw [ha] at this
    cases this
    exact ⟨fun _ => none, fun _ => .inl rfl, .inr ⟨_, us.toArray, _, q, rfl, rfl, rfl, by rw [List.size_toArray, len]; exact hl, by simpa using rel⟩, (fun _ _ z => by cases (show (none : Option HO) = some _ from z)), fun _ z => absurd rfl z⟩
  | none =>
    refine ⟨fun b => if b = a then some (.frz { cls := .type "list", data := .seq us.toArray } (.lst (ns.map V.int))) else none, ?_, .inl (.inr ⟨_, if_pos rfl⟩), ?_, ?_⟩
    · intro b
      by_cases c : b = a
      · exact .inr ⟨_, _, if_pos c⟩
      · exact .inl (if_neg c)
    · intro b u z
      by_cases c : b = a
      · have z' := (if_pos c).symm.trans z
        cases z'
        subst c
        exact ⟨ha, by rw [List.length_map]; exact hl, us, _, rel, ha⟩
      · have z' := (if_neg c).symm.trans z
        cases z'
    · intro b z
      by_cases c : b = a
      · subst c
        exact ⟨rfl, q⟩
      · exact absurd (if_neg c) z
theorem lawG_call {P : Program} {w : World} {K : PySem.W.Frag} {mg mb : Str → Option Value} {CX : CXT} {k : Nat} {fa a : Addr} {fd : FuncData} {x : Str} {sp : Sp} {t : Shared} {us : List Value} {ns : List Int}
    (KX : K.In t.heap) (hns : t.heap.Ns mainGlobals mg) (hb : t.heap.Ns builtinsNs mb) (hbb : ∀ x : Str, x ≠ "__name__" → mb x = bootBuiltins x) (hlim : t.heap.NoLimit) (hg : t.gens = #[])
    (ha : t.heap.get? a = some { cls := .type "list", data := .seq us.toArray }) (hi : IntsAre us ns) (hl : ns.length ≤ sizeLine) (hr : Room k callerA)
    (F : ∀ base : Heap, K.In base → base.Ns mainGlobals mg → FnG P w K mg base CX k fa fd [x] sp) (hbind : ∀ (s : Shared) (u : Value), BindsTo s fd ⟨[u], []⟩ [(x, u)])
    (hsp : ∀ H : Hp, Only H → SqL K H a (ns.map V.int) → sp [.ref a] H (fun v _ => v = .bl true) fun _ _ _ => False)
    (hCX : ∀ H u s', CX [] H t (fun _ _ _ => False) u s' → False) :
    codeAny (model P w) callerA (.call (.ref fa) ⟨[.ref a], []⟩) (fun r s' => r = .ok (.ret (.bool true)) ∧ OldK t.heap s'.heap ∧ s'.os = t.os ∧ AllBare s'.gens) t := by
  obtain ⟨T, hO, hS, hok, hT⟩ := script_heap (P := P) (w := w) KX ha hi hl
  -- the heap without the script
  have stays : ∀ {b : Addr} {o : Obj}, t.heap.get? b = some o → T b = none → (hidT t.heap T).get? b = some o := fun z n => hidT_get z n
  have noDict : ∀ {b : Addr} {o : Obj} {es : Array DictEntry} {ep : Nat}, t.heap.get? b = some o → o.data = .dict es ep → T b = none := by
    intro b o es ep z d
    by_cases c : T b = none
    · exact c
    · obtain ⟨rfl, _⟩ := hT b c
      rw [ha] at z
      cases z
      exact nomatch (show Data.seq us.toArray _ = Data.dict es ep from d)
  have nsT : ∀ {b : Addr} {m : Str → Option Value}, t.heap.Ns b m → (hidT t.heap T).Ns b m := by
    rintro b m ⟨o, es, ep, z, d, r⟩
    exact ⟨o, es, ep, stays z (noDict z d), d, r⟩
  have KT : K.In (hidT t.heap T) := by
    intro b o z
    refine stays (KX b o z) ?_
    by_cases c : T b = none
    · exact c
    · rw [(hT b c).2] at z
      cases z
  obtain ⟨mc, l1, l2⟩ := hlim
  have M : Mod K mg (hidT t.heap T) := ⟨KT, nsT hns, ⟨mb, nsT hb, hbb⟩, ⟨mc, nsT l1, l2⟩⟩
  have e0 : Env0 P w K mg (hidT t.heap T) callerA [] t T := by
    refine ⟨rfl, M, ?_, Nat.le_of_eq (hidT_size _ _), trivial, ?_, hok, .of_eq hg⟩
    · intro b o z
      exact of_hidT z
    · intro b z
      exact absurd (show b ∈ ([] : List Addr) from z) (by simp)
  have run := (F _ KT (nsT hns)).go callerA [] t T ⟨[.ref a], []⟩ [.ref a] [.ref a] _ _ rfl hr e0 (hbind t (.ref a)) (.cons rfl .nil) (hsp T hO hS)
  refine codeAny_mono run ?_
  rintro (u | z) t' h
  · exact (hCX T u t' h).elim
  · cases z with
    | ret u =>
      obtain ⟨v, T', os, bare, un, ok2, r, q⟩ := h
      cases (show v = .bl true from q)
      cases (show u = Value.bool true from r)
      refine ⟨rfl, OldK.of_keep ?_, os, bare⟩
      intro b o z
      rcases hO b with n | ⟨ob, xs, n⟩
      · exact un.keep b o z n (fun y => absurd (show b ∈ ([] : List Addr) from y) (by simp)) (by simp)
      · obtain ⟨z1, _⟩ := hok b _ n
        obtain ⟨z2, _⟩ := ok2 b _ (un.frzs b ob _ n)
        rw [z] at z1
        cases z1
        exact z2
    | _ => exact False.elim h
theorem walkG {l : PySem.W.OpenLaw} {n k : Nat} {q : Program} {loose : List Str} {XP : (Str → Option Value) → Heap → Prop} {YP : World → Heap → Prop} {d : DefRec} {CX : CXT} {x : Str}
    (hn : l.most = some n) (hn2 : n ≤ sizeLine) (hdf : d.params.defaults = []) (hr : Room k callerA)
    (F : ∀ (w : World) (mg : Str → Option Value) (fa : Addr) (h : Heap), YP w h → h.Ns mainGlobals mg → mg d.name = some (.ref fa) →
      ∃ (K : PySem.W.Frag) (fd : FuncData) (sp : Sp), K.In h ∧ (∀ (s : Shared) (u : Value), BindsTo s fd ⟨[u], []⟩ [(x, u)]) ∧
        (∀ (H : Hp) (a : Addr) (ns : List Int), ns.length ≤ n → Only H → SqL K H a (ns.map V.int) → sp [.ref a] H (fun v _ => v = .bl true) fun _ _ _ => False) ∧
        ∀ base : Heap, K.In base → base.Ns mainGlobals mg → FnG l.prog w K mg base CX k fa fd [x] sp)
    (hCX : ∀ (H : Hp) (s : Shared) (u : Value) (s' : Shared), CX [] H s (fun _ _ _ => False) u s' → False) :
    PySem.W.WalkO q loose XP YP l.row.toRowW d [] (fun f vs => PySem.call f vs) := by
  apply Att.attach_call hn hdf
  intro w s₀ t mg mb fa o pm cd doc a us ns G Y ho hd hcd hmg hobj hints hlen hg
  obtain ⟨K, fd, sp, KX, b, want, fn⟩ := F w mg fa _ Y G.T.g hmg
  exact lawG_call KX G.T.g G.T.b G.T.builtins G.T.nolimit hg hobj hints (Nat.le_trans hlen hn2) hr fn b (fun H hO hS => want H a ns hlen hO hS) fun H u s' => hCX H t u s'
end L2.WD
/-! The data layer, part 38: what may be shown, by its form. -/
namespace L2.WD
open PySem PySem.Spec PyProof.Rows
/-- plain signs -/
def ascS (z : Str) : Bool := z.cps.toList.all fun c => decide (c < 128)
-- f: whether there may be an empty dict (then no list), or lists (then no dict)
mutual
def sdD (f : Bool) : D → Bool
  | .non => true
  | .bl _ => true
  | .int i => decide (i.natAbs ≤ 100000)
  | .str z => decide (z.length ≤ 1000) && ascS z
  | .tup ds => decide (ds.length ≤ 1000) && sdDs f ds
  | .lst ds => !f && (decide (ds.length ≤ 1000) && sdDs f ds)
  | .dic [] => f
  | _ => false
def sdDs (f : Bool) : List D → Bool
  | [] => true
  | d :: ds => sdD f d && sdDs f ds
end
-- how much there is of it
mutual
def wtD : D → Nat
  | .str z => z.length
  | .tup ds => wtDs ds
  | .lst ds => wtDs ds
  | _ => 0
def wtDs : List D → Nat
  | [] => 0
  | d :: ds => wtD d + 1 + wtDs ds
end
-- how deep it is
mutual
def dpD : D → Nat
  | .tup ds => dpDs ds + 1
  | .lst ds => dpDs ds + 1
  | .dic _ => 1
  | _ => 0
def dpDs : List D → Nat
  | [] => 0
  | d :: ds => max (dpD d) (dpDs ds)
end
theorem int_short {i : Int} (h : i.natAbs ≤ 100000) : (PyData.shown (.int i)).length ≤ 13 ∧ i.natAbs.log2 < 1920 := by
  refine ⟨PyData.shown_int_le (Nat.lt_of_le_of_lt h (by decide)), ?_⟩
  by_cases z : i.natAbs = 0
  · rw [z]; decide
  · exact Nat.lt_of_lt_of_le ((Nat.log2_lt (k := 18) z).mpr (Nat.lt_of_le_of_lt h (by decide))) (by decide)
structure RpO (f : Bool) (p : PyData) (w n : Nat) : Prop where
  sh : p.showable = true
  ls : p.leavesShort 13 = true
  bk : p.bulk = w
  dp : p.depth = n
  nl : f = true → noL p = true
  nd : f = false → p.hasDict = false
structure RpOs (f : Bool) (ps : List PyData) (w n : Nat) : Prop where
  sh : PyData.showableAll ps = true
  ls : PyData.leavesShortAll 13 ps = true
  bk : PyData.bulkAll ps = w
  dp : PyData.depthAll ps = n
  nl : f = true → noLs ps = true
  nd : f = false → PyData.hasDictAll ps = false
section
variable {f : Bool}
mutual
theorem rp_of : ∀ d : D, sdD f d = true → ∃ p, rpPy d = some p ∧ RpO f p (wtD d) (dpD d)
  | .non, _ => ⟨_, rfl, rfl, rfl, rfl, rfl, fun _ => rfl, fun _ => rfl⟩
  | .bl b, _ => ⟨_, rfl, rfl, rfl, rfl, rfl, fun _ => rfl, fun _ => rfl⟩
  | .int i, h => by
    have h' : i.natAbs ≤ 100000 := by simpa only [sdD, decide_eq_true_eq] using h
    obtain ⟨h1, h2⟩ := int_short h'
    exact ⟨_, rfl, by simpa only [PyData.showable, decide_eq_true_eq] using h2, by simpa only [PyData.leavesShort, decide_eq_true_eq] using h1, rfl, rfl, fun _ => rfl, fun _ => rfl⟩
  | .str z, h => by
    have h' : z.length ≤ 1000 ∧ ascS z = true := by simpa only [sdD, Bool.and_eq_true, decide_eq_true_eq] using h
    refine ⟨_, rfl, rfl, ?_, rfl, rfl, fun _ => rfl, fun _ => rfl⟩
    simp only [PyData.leavesShort, List.all_eq_true, decide_eq_true_eq]
    intro c hc
    have := h'.2
    unfold ascS at this
    simp only [List.all_eq_true, decide_eq_true_eq] at this
    have := this c hc
    omega
  | .tup ds, h => by
    have h' : ds.length ≤ 1000 ∧ sdDs f ds = true := by simpa only [sdD, Bool.and_eq_true, decide_eq_true_eq] using h
    obtain ⟨ps, e, r⟩ := rps_of ds h'.2
    refine ⟨.tuple ps, by simp only [rpPy, e, Option.map_some], by simpa only [PyData.showable] using r.sh, by simpa only [PyData.leavesShort] using r.ls, by simpa only [PyData.bulk, wtD] using r.bk, by simp only [PyData.depth, dpD, r.dp], fun z => by simpa only [noL] using r.nl z, fun z => by simpa only [PyData.hasDict] using r.nd z⟩
  | .lst ds, h => by
    have h' : f = false ∧ ds.length ≤ 1000 ∧ sdDs f ds = true := by simpa only [sdD, Bool.and_eq_true, decide_eq_true_eq, Bool.not_eq_true'] using h
    obtain ⟨h0, h'⟩ := h'
    obtain ⟨ps, e, r⟩ := rps_of ds h'.2
    refine ⟨.list ps, by simp only [rpPy, e, Option.map_some], by simpa only [PyData.showable] using r.sh, by simpa only [PyData.leavesShort] using r.ls, by simpa only [PyData.bulk, wtD] using r.bk, by simp only [PyData.depth, dpD, r.dp], (fun z => by rw [h0] at z; cases z), fun z => by simpa only [PyData.hasDict] using r.nd z⟩
  | .dic [], h => by
    have h' : f = true := by simpa only [sdD] using h
    exact ⟨_, rfl, rfl, rfl, rfl, rfl, fun _ => rfl, fun z => by rw [h'] at z; cases z⟩
  | .dic (_ :: _), h => by simp [sdD] at h
  | .obj _ _, h => by simp [sdD] at h
  | .exc _ _, h => by simp [sdD] at h
  | .cls _, h => by simp [sdD] at h
  | .fn _, h => by simp [sdD] at h
  | .ty _, h => by simp [sdD] at h
  | .scr _, h => by simp [sdD] at h
theorem rps_of : ∀ ds : List D, sdDs f ds = true → ∃ ps, rpPys ds = some ps ∧ RpOs f ps (wtDs ds) (dpDs ds)
  | [], _ => ⟨[], rfl, rfl, rfl, rfl, rfl, fun _ => rfl, fun _ => rfl⟩
  | d :: ds, h => by
    have h' : sdD f d = true ∧ sdDs f ds = true := by simpa only [sdDs, Bool.and_eq_true] using h
    obtain ⟨p, e1, r1⟩ := rp_of d h'.1
    obtain ⟨ps, e2, r2⟩ := rps_of ds h'.2
    refine ⟨p :: ps, by simp only [rpPys, e1, e2], ?_, ?_, ?_, ?_, fun z => ?_, fun z => ?_⟩
    · simp only [PyData.showableAll, r1.sh, r2.sh, Bool.and_self]
    · simp only [PyData.leavesShortAll, r1.ls, r2.ls, Bool.and_self]
    · simp only [PyData.bulkAll, r1.bk, r2.bk, wtDs]
    · simp only [PyData.depthAll, r1.dp, r2.dp, dpDs]
    · simp only [noLs, r1.nl z, r2.nl z, Bool.and_self]
    · simp only [PyData.hasDictAll, r1.nd z, r2.nd z, Bool.or_self]
end
theorem reprD_ok {d : D} (h : sdD f d = true) (hw : wtD d ≤ 1000000) (hd : dpD d ≤ 60) : ∃ z, reprD d = some (.fz (.str z)) := by
  obtain ⟨p, e, r⟩ := rp_of d h
  refine ⟨p.shown, ?_⟩
  unfold reprD
  rw [e]
  have b2 : p.shown.length ≤ sizeLine := PyData.shown_fits_bulk (B := 13) (by decide) (by decide) r.ls (by rw [r.bk]; exact Nat.le_trans hw (by decide))
  have b : rpB p = true := by
    unfold rpB
    rw [r.sh, decide_eq_true b2, r.dp, decide_eq_true hd]
    cases f with
    | true => rw [r.nl rfl]; simp
    | false => rw [r.nd rfl]; simp
  exact if_pos b
theorem sdDs_mem : ∀ {ds : List D}, sdDs f ds = true ↔ ∀ d ∈ ds, sdD f d = true
  | [] => by simp [sdDs]
  | d :: ds => by
    rw [sdDs, Bool.and_eq_true, sdDs_mem]
    simp
theorem sd_tup {ds : List D} (h1 : ds.length ≤ 1000) (h : ∀ d ∈ ds, sdD f d = true) : sdD f (.tup ds) = true := by
  rw [sdD, decide_eq_true h1, sdDs_mem.mpr h]
  rfl
theorem sd_lst {ds : List D} (h1 : ds.length ≤ 1000) (h : ∀ d ∈ ds, sdD false d = true) : sdD false (.lst ds) = true := by
  rw [sdD, decide_eq_true h1, sdDs_mem.mpr h]
  rfl
theorem sd_tup_mem {ds : List D} (h : sdD f (.tup ds) = true) : ds.length ≤ 1000 ∧ ∀ d ∈ ds, sdD f d = true := by
  have h' : ds.length ≤ 1000 ∧ sdDs f ds = true := by simpa only [sdD, Bool.and_eq_true, decide_eq_true_eq] using h
  exact ⟨h'.1, sdDs_mem.mp h'.2⟩
theorem sd_str {z : Str} (h1 : z.length ≤ 1000) (h : ascS z = true) : sdD f (.str z) = true := by
  rw [sdD, decide_eq_true h1, h]
  rfl
mutual
theorem PD.of_sd : ∀ d : D, sdD f d = true → PD 1000 d
  | .non, _ => .non
  | .bl b, _ => .bl b
  | .int i, _ => .int i
  | .str z, h => by
    have h' : z.length ≤ 1000 ∧ ascS z = true := by simpa only [sdD, Bool.and_eq_true, decide_eq_true_eq] using h
    exact .str h'.1
  | .tup ds, h => by
    have h' : ds.length ≤ 1000 ∧ sdDs f ds = true := by simpa only [sdD, Bool.and_eq_true, decide_eq_true_eq] using h
    exact .tup h'.1 (PD.of_sds ds h'.2)
  | .lst ds, h => by
    have h' : f = false ∧ ds.length ≤ 1000 ∧ sdDs f ds = true := by simpa only [sdD, Bool.and_eq_true, decide_eq_true_eq, Bool.not_eq_true'] using h
    exact .lst h'.2.1 (PD.of_sds ds h'.2.2)
  | .dic [], _ => .dic
  | .dic (_ :: _), h => by simp [sdD] at h
  | .obj _ _, h => by simp [sdD] at h
  | .exc _ _, h => by simp [sdD] at h
  | .cls _, h => by simp [sdD] at h
  | .fn _, h => by simp [sdD] at h
  | .ty _, h => by simp [sdD] at h
  | .scr _, h => by simp [sdD] at h
theorem PD.of_sds : ∀ ds : List D, sdDs f ds = true → ∀ d ∈ ds, PD 1000 d
  | [], _ => fun d hd => by cases hd
  | d :: ds, h => by
    have h' : sdD f d = true ∧ sdDs f ds = true := by simpa only [sdDs, Bool.and_eq_true] using h
    have h1 := PD.of_sd d h'.1
    have h2 := PD.of_sds ds h'.2
    intro x hx
    rcases List.mem_cons.mp hx with rfl | hx
    · exact h1
    · exact h2 x hx
end
/-! ### weights, depths of rows -/
theorem wt_app : ∀ xs ys : List D, wtDs (xs ++ ys) = wtDs xs + wtDs ys
  | [], ys => by simp [wtDs]
  | x :: xs, ys => by
    rw [List.cons_append, wtDs, wtDs, wt_app xs ys]
    omega
theorem wt_rev : ∀ xs : List D, wtDs xs.reverse = wtDs xs
  | [] => rfl
  | x :: xs => by
    rw [List.reverse_cons, wt_app, wt_rev xs, wtDs, wtDs, wtDs]
    omega
theorem wt_drop (n : Nat) : ∀ xs : List D, wtDs (xs.drop n) ≤ wtDs xs := fun xs => by
  have := wt_app (xs.take n) (xs.drop n)
  rw [List.take_append_drop] at this
  omega
theorem wt_take (n : Nat) : ∀ xs : List D, wtDs (xs.take n) ≤ wtDs xs := fun xs => by
  have := wt_app (xs.take n) (xs.drop n)
  rw [List.take_append_drop] at this
  omega
theorem wt_cut (xs : List D) (lo hi : Option Int) : wtDs (cutD xs lo hi) ≤ wtDs xs := by
  unfold cutD
  exact Nat.le_trans (wt_take _ _) (wt_drop _ _)
theorem wt_mem : ∀ {xs : List D} {d : D}, d ∈ xs → wtD d ≤ wtDs xs
  | x :: xs, d, h => by
    rw [wtDs]
    rcases List.mem_cons.mp h with rfl | h
    · omega
    · have := wt_mem h
      omega
theorem dp_le {n : Nat} : ∀ {xs : List D}, (∀ d ∈ xs, dpD d ≤ n) → dpDs xs ≤ n
  | [], _ => Nat.zero_le _
  | x :: xs, h => by
    rw [dpDs]
    exact Nat.max_le.mpr ⟨h x (by simp), dp_le fun d hd => h d (by simp [hd])⟩
theorem dp_mem : ∀ {xs : List D} {d : D}, d ∈ xs → dpD d ≤ dpDs xs
  | x :: xs, d, h => by
    rw [dpDs]
    rcases List.mem_cons.mp h with rfl | h
    · exact Nat.le_max_left ..
    · exact Nat.le_trans (dp_mem h) (Nat.le_max_right ..)
/-! ### plain texts -/
theorem asc_app {a b : Str} : ascS (a ++ b) = (ascS a && ascS b) := by
  unfold ascS
  have : (a ++ b).cps.toList = a.cps.toList ++ b.cps.toList := by
    show (a.cps ++ b.cps).toList = _
    rw [Array.toList_append]
  rw [this, List.all_append]
theorem asc_one {c : Nat} (h : c < 128) : ascS ⟨#[c]⟩ = true := by
  unfold ascS
  simpa using h
theorem asc_upper1 : ∀ c : Nat, c < 128 → (Unicode.upperOf c).all (fun x => decide (x < 128)) = true := by
  have : ∀ c ∈ List.range 128, (Unicode.upperOf c).all (fun x => decide (x < 128)) = true := by decide +kernel
  intro c hc
  exact this c (List.mem_range.mpr hc)
theorem asc_upper {z : Str} (h : ascS z = true) : ascS (Txt.upper z) = true := by
  unfold ascS at *
  rw [List.all_eq_true] at *
  intro c hc
  have hm : c ∈ (Txt.upper z).cps := by simpa using hc
  have : (Txt.upper z).cps = (z.cps.mapIdx fun i c => (Unicode.upperOf c).toArray).flatten := rfl
  rw [this] at hm
  obtain ⟨a, ha, hca⟩ := Array.mem_flatten.mp hm
  obtain ⟨i, hi, rfl⟩ := Array.mem_mapIdx.mp ha
  have h1 := h (z.cps[i]) (by simp)
  have h2 := asc_upper1 _ (of_decide_eq_true h1)
  exact List.all_eq_true.mp h2 c (by simpa using hca)
end
end L2.WD
namespace Dn
open PySem PySem.Spec PyProof.Rows L2 L2.WD
def isiKs : List Nat := [0, 1, 2, 3, 4, 5, 6, 7, 8, 9, 10, 11, 12, 13, 14, 15, 16, 17, 18, 19, 20, 21, 22]
def ancL : List (List Nat) := [[0], [1, 2], [2], [3], [4], [5], [6], [7], [8], [9], [10, 7], [11, 8], [12, 10, 7], [13, 10, 7], [14, 10, 7], [15, 10, 7], [16, 10, 7], [17, 10, 7], [18, 10, 7], [19, 11, 8], [20, 11, 8], [21], [22]]
def excL : List Nat := [0, 1, 2, 3, 4, 5, 6, 7, 8, 9, 10]
def insL : List Nat := [11, 12]
def isiF : List D → Option Sl := isiG (ancT isiKs ancL) insL.contains excL.contains
def catF (k : Nat) : Nat → Option Bool := catT excL ancL k
def c_PART_WORDS : D := .tup [.str "one", .str "children", .str "stock"]
def c_WORDS : D := .tup [.str "all", .str "and", .str "children", .str "childless", .str "crown", .str "else", .str "if", .str "lives", .str "not", .str "of", .str "or", .str "stock", .str "to"]
/-- is_name -/
def g10 : So := (seqS (ifS (orT (notT (truO (frzO (caX isiF (consA (nmO 0) (consA (cO (.ty "str")) nilA)))))) (orT (notT (tstB (chX leD leD (cO (.int 1)) (frzO (caX (one lenD) (consA (nmO 0) nilA))) (cO (.int 8))))) (tstB (binX (inD false) (nmO 0) (cO c_WORDS))))) (retS (valO (cO (.bl false)))) nxS) (retS (caX (one (allD fun bs => bs.all id)) (consA (frzO (compX [1] (itX (frD 0)) (gN 1) yesT (frzD (binX (inD false) (nmO 1) (cO (.str "abcdefghijklmnopqrstuvwxyz")))))) nilA))))
def F10 : Mo Sl := bodyF 2 g10
/-- is_part -/
def g20 : So := (seqS (ifS (orT (notT (truO (frzO (caX isiF (consA (nmO 0) (consA (cO (.ty "tuple")) nilA)))))) (orT (tstB (binX (eq2D true) (frzO (caX (one lenD) (consA (nmO 0) nilA))) (cO (.int 2)))) (notT (truO (frzO (caX isiF (consA (frzO (binX ixD (nmO 0) (cO (.int 0)))) (consA (cO (.ty "str")) nilA)))))))) (retS (valO (cO (.bl false)))) nxS) (retS (valO (andO (frzO (binX (inD false) (frzO (binX ixD (nmO 0) (cO (.int 0)))) (cO c_PART_WORDS))) (frzO (callX F10 [] (consA (frzO (binX ixD (nmO 0) (cO (.int 1)))) nilA)))))))
def F20 : Mo Sl := bodyF 1 g20
/-- are_parts -/
def g21 : So := (seqS (ifS (orT (notT (truO (frzO (caX isiF (consA (nmO 0) (consA (cO (.ty "tuple")) nilA)))))) (notT (tstB (chX leD leD (cO (.int 1)) (frzO (caX (one lenD) (consA (nmO 0) nilA))) (cO (.int 6)))))) (retS (valO (cO (.bl false)))) nxS) (retS (caX (one (allD fun bs => bs.all id)) (consA (frzO (compX [1] (itX (frD 0)) (gN 1) yesT (frzD (callX F20 [] (consA (nmO 1) nilA))))) nilA))))
def F21 : Mo Sl := bodyF 2 g21
/-- is_whom -/
def g22 : So := (seqS (ifS (orT (notT (truO (frzO (caX isiF (consA (nmO 0) (consA (cO (.ty "tuple")) nilA)))))) (notT (tstB (chX leD leD (cO (.int 1)) (frzO (caX (one lenD) (consA (nmO 0) nilA))) (cO (.int 4)))))) (retS (valO (cO (.bl false)))) nxS) (retS (caX (one (allD fun bs => bs.all id)) (consA (frzO (compX [1] (itX (frD 0)) (gN 1) yesT (frzD (callX F21 [] (consA (nmO 1) nilA))))) nilA))))
def F22 : Mo Sl := bodyF 2 g22
/-- House.parent -/
def g42 : So := (seqS (forS (itX (valD (attX [(11, false)] "folk" (nmO 0)))) (gTupD 2 (gConsD (gN 2) (gConsD (gN 3) gNilD))) (ifS (andT (tstB (binX (eq2D false) (nmO 2) (nmO 1))) (truO (frzO (caX isiF (consA (nmO 1) (consA (cO (.ty "str")) nilA)))))) (retS (mvX 3)) nxS)) (raiseS1 9 "name" (frD 1)))
def F42 : Mo Sl := bodyF 4 g42
/-- check_whom -/
def g23 : So := (ifS (notT (truO (frzO (callX F22 [] (consA (nmO 0) nilA))))) (raiseS0 8) nxS)
def F23 : Mo Sl := bodyF 1 g23
/-- takers -/
def g31 : So := (seqS (exprS (callX F23 [] (consA (nmO 1) nilA))) (seqS (exprS (badX : Mo Sl)) (seqS (forS (itX (frzD (badX : Mo Sl))) (gN 4) (exprS (methX 11 "parent" F42 [] (nmO 0) (consA (nmO 4) nilA)))) (retS (badX : Mo Sl)))))
def F31 : Mo Sl := bodyF 5 g31
/-- is_whole -/
def g8 : So := (retS (valO (andO (frzO (caX isiF (consA (nmO 0) (consA (cO (.ty "int")) nilA)))) (frzO (notX (frzO (caX isiF (consA (nmO 0) (consA (cO (.ty "bool")) nilA)))))))))
def F8 : Mo Sl := bodyF 1 g8
/-- is_between -/
def g9 : So := (retS (valO (andO (frzO (callX F8 [] (consA (nmO 0) nilA))) (frzO (chX leD leD (nmO 1) (nmO 0) (nmO 2))))))
def F9 : Mo Sl := bodyF 3 g9
/-- is_day -/
def g14 : So := (retS (callX F9 [] (consA (nmO 0) (consA (frzO (binX subD (cO (.int 0)) (cO (.int 9999)))) (consA (cO (.int 9999)) nilA)))))
def F14 : Mo Sl := bodyF 1 g14
/-- is_death -/
def g49 : So := (retS (valO (andO (frzO (caX isiF (consA (nmO 0) (consA (cO (.ty "tuple")) nilA)))) (andO (frzO (binX (eq2D false) (frzO (caX (one lenD) (consA (nmO 0) nilA))) (cO (.int 2)))) (andO (frzO (callX F10 [] (consA (frzO (binX ixD (nmO 0) (cO (.int 0)))) nilA))) (frzO (callX F14 [] (consA (frzO (binX ixD (nmO 0) (cO (.int 1)))) nilA))))))))
def F49 : Mo Sl := bodyF 1 g49
/-- check_deaths -/
def g50 : So := (seqS (ifS (orT (notT (truO (frzO (caX isiF (consA (nmO 0) (consA (cO (.ty "tuple")) nilA)))))) (tstB (binX gtD (frzO (caX (one lenD) (consA (nmO 0) nilA))) (cO (.int 8))))) (raiseS1 6 "number" (valD (cO .non))) nxS) (forS (enX (frD 0)) (gTupD 2 (gConsD (gN 1) (gConsD (gN 2) gNilD))) (ifS (orT (notT (truO (frzO (callX F49 [] (consA (nmO 2) nilA))))) (andT (tstB (binX gtD (nmO 1) (cO (.int 0)))) (tstB (binX geD (frzO (binX ixD (frzO (binX ixD (nmO 0) (frzO (binX subD (nmO 1) (cO (.int 1)))))) (cO (.int 0)))) (frzO (binX ixD (nmO 2) (cO (.int 0)))))))) (raiseS1 6 "number" (frD 1)) nxS)))
def F50 : Mo Sl := bodyF 3 g50
/-- Story.__init__ -/
def g51 : So := (seqS (setS 1 (ifE (tstB (binX (isN false) (nmO 1) (cO .non))) (tupX nilD) (mvX 1))) (seqS (exprS (callX F50 [] (consA (nmO 1) nilA))) (fldS 12 0 "deaths" (frD 1))))
def F51 : Mo Sl := bodyF 2 g51
/-- is_sum -/
def g12 : So := (retS (callX F9 [] (consA (nmO 0) (consA (cO (.int 0)) (consA (cO (.int 1000000000)) nilA)))))
def F12 : Mo Sl := bodyF 1 g12
/-- check_sum -/
def g13 : So := (ifS (notT (truO (frzO (callX F12 [] (consA (nmO 0) nilA))))) (raiseS1 3 "thing" (frD 0)) nxS)
def F13 : Mo Sl := bodyF 1 g13
/-- is_ware -/
def g34 : So := (seqS (ifS (orT (notT (truO (frzO (caX isiF (consA (nmO 0) (consA (cO (.ty "tuple")) nilA)))))) (orT (tstB (binX (eq2D true) (frzO (caX (one lenD) (consA (nmO 0) nilA))) (cO (.int 3)))) (orT (notT (truO (frzO (callX F10 [] (consA (frzO (binX ixD (nmO 0) (cO (.int 0)))) nilA))))) (tstB (binX (inD false) (frzO (binX ixD (nmO 0) (cO (.int 0)))) (nmO 1)))))) (retS (valO (cO (.bl false)))) nxS) (retS (valO (andO (frzO (callX F10 [] (consA (frzO (binX ixD (nmO 0) (cO (.int 1)))) nilA))) (frzO (callX F12 [] (consA (frzO (binX ixD (nmO 0) (cO (.int 2)))) nilA)))))))
def F34 : Mo Sl := bodyF 2 g34
/-- check_goods -/
def g35 : So := (seqS (ifS (orT (notT (truO (frzO (caX isiF (consA (nmO 0) (consA (cO (.ty "tuple")) nilA)))))) (tstB (binX gtD (frzO (caX (one lenD) (consA (nmO 0) nilA))) (cO (.int 8))))) (raiseS1 5 "number" (valD (cO .non))) nxS) (seqS (setS 1 (lstX nilD)) (forS (enX (frD 0)) (gTupD 2 (gConsD (gN 2) (gConsD (gN 3) gNilD))) (seqS (ifS (notT (truO (frzO (callX F34 [] (consA (nmO 3) (consA (nmO 1) nilA)))))) (raiseS1 5 "number" (frD 2)) nxS) (exprS (muN 1 (muX 1 appendG (consD (frzD (binX ixD (nmO 3) (cO (.int 0)))) nilD))))))))
def F35 : Mo Sl := bodyF 4 g35
/-- is_person -/
def g32 : So := (seqS (ifS (orT (notT (truO (frzO (caX isiF (consA (nmO 0) (consA (cO (.ty "tuple")) nilA)))))) (orT (tstB (binX (eq2D true) (frzO (caX (one lenD) (consA (nmO 0) nilA))) (cO (.int 2)))) (orT (notT (truO (frzO (callX F10 [] (consA (frzO (binX ixD (nmO 0) (cO (.int 0)))) nilA))))) (tstB (binX (inD false) (frzO (binX ixD (nmO 0) (cO (.int 0)))) (nmO 1)))))) (retS (valO (cO (.bl false)))) nxS) (retS (valO (orO (frzO (binX (isN false) (frzO (binX ixD (nmO 0) (cO (.int 1)))) (cO .non))) (andO (frzO (callX F10 [] (consA (frzO (binX ixD (nmO 0) (cO (.int 1)))) nilA))) (frzO (binX (inD false) (frzO (binX ixD (nmO 0) (cO (.int 1)))) (nmO 1))))))))
def F32 : Mo Sl := bodyF 2 g32
/-- check_people -/
def g33 : So := (seqS (ifS (orT (notT (truO (frzO (caX isiF (consA (nmO 0) (consA (cO (.ty "tuple")) nilA)))))) (notT (tstB (chX leD leD (cO (.int 1)) (frzO (caX (one lenD) (consA (nmO 0) nilA))) (cO (.int 8)))))) (raiseS1 4 "number" (valD (cO .non))) nxS) (seqS (setS 1 (lstX nilD)) (forS (enX (frD 0)) (gTupD 2 (gConsD (gN 2) (gConsD (gN 3) gNilD))) (seqS (ifS (notT (truO (frzO (callX F32 [] (consA (nmO 3) (consA (nmO 1) nilA)))))) (raiseS1 4 "number" (frD 2)) nxS) (exprS (muN 1 (muX 1 appendG (consD (frzD (binX ixD (nmO 3) (cO (.int 0)))) nilD))))))))
def F33 : Mo Sl := bodyF 4 g33
/-- House.__init__ -/
def g36 : So := (seqS (exprS (callX F33 [] (consA (nmO 1) nilA))) (seqS (setS 2 (ifE (tstB (binX (isN false) (nmO 2) (cO .non))) (tupX nilD) (mvX 2))) (seqS (exprS (callX F35 [] (consA (nmO 2) nilA))) (seqS (exprS (callX F13 [] (consA (nmO 3) nilA))) (seqS (exprS (callX F13 [] (consA (nmO 4) nilA))) (seqS (fldS 11 0 "folk" (frD 1)) (seqS (fldS 11 0 "wares" (frD 2)) (seqS (fldS 11 0 "purse" (frD 3)) (fldS 11 0 "debts" (frD 4))))))))))
def F36 : Mo Sl := bodyF 5 g36
/-- _law_refused -/
def g66 : So := (seqS (tryS (exprS (callX F31 [.int 0] (consA (frzO (mkX 11 F36 [.non, .int 0, .int 0] (consA (frzO (tupX (consD (frzD (tupX (consD (valD (cO (.str "ann"))) (consD (valD (cO .non)) nilD)))) nilD))) nilA))) (consA (nmO 0) (consA (frzO (mkX 12 F51 [] (consA (frzO (tupX nilD)) nilA))) nilA))))) [⟨catF 10, 1, (retS (caX isiF (consA (nmO 1) (consA (cO (.cls 8)) nilA))))⟩]) (retS (valO (cO (.bl false)))))
def F66 : Mo Sl := bodyF 2 g66
/-- _law_is_name -/
def g62 : So := (seqS (setS 1 (lstX (consD (valD (cO (.str "all"))) (consD (valD (cO (.str "and"))) (consD (valD (cO (.str "children"))) (consD (valD (cO (.str "childless"))) (consD (valD (cO (.str "crown"))) (consD (valD (cO (.str "else"))) (consD (valD (cO (.str "if"))) (consD (valD (cO (.str "lives"))) (consD (valD (cO (.str "not"))) (consD (valD (cO (.str "of"))) (consD (valD (cO (.str "or"))) (consD (valD (cO (.str "stock"))) (consD (valD (cO (.str "to"))) nilD))))))))))))))) (seqS (ifS (orT (notT (truO (frzO (caX isiF (consA (nmO 0) (consA (cO (.ty "str")) nilA)))))) (orT (tstB (binX ltD (frzO (caX (one lenD) (consA (nmO 0) nilA))) (cO (.int 1)))) (orT (tstB (binX gtD (frzO (caX (one lenD) (consA (nmO 0) nilA))) (cO (.int 8)))) (tstB (binX (inD false) (nmO 0) (nmO 1)))))) (retS (valO (cO (.bl false)))) nxS) (retS (caX (one (allD fun bs => bs.all id)) (consA (frzO (compX [2] (itX (frD 0)) (gN 2) yesT (frzD (binX (inD false) (nmO 2) (cO (.str "abcdefghijklmnopqrstuvwxyz")))))) nilA)))))
def F62 : Mo Sl := bodyF 3 g62
/-- _law_due -/
def g63 : So := (seqS (ifS (orT (notT (truO (frzO (caX isiF (consA (nmO 0) (consA (cO (.ty "tuple")) nilA)))))) (tstB (binX (inD true) (frzO (caX (one lenD) (consA (nmO 0) nilA))) (frzO (lstX (consD (valD (cO (.int 1))) (consD (valD (cO (.int 2))) (consD (valD (cO (.int 3))) (consD (valD (cO (.int 4))) nilD))))))))) (retS (valO (cO (.bl false)))) nxS) (seqS (forS (itX (frD 0)) (gN 1) (seqS (ifS (orT (notT (truO (frzO (caX isiF (consA (nmO 1) (consA (cO (.ty "tuple")) nilA)))))) (tstB (binX (inD true) (frzO (caX (one lenD) (consA (nmO 1) nilA))) (frzO (lstX (consD (valD (cO (.int 1))) (consD (valD (cO (.int 2))) (consD (valD (cO (.int 3))) (consD (valD (cO (.int 4))) (consD (valD (cO (.int 5))) (consD (valD (cO (.int 6))) nilD))))))))))) (retS (valO (cO (.bl false)))) nxS) (forS (itX (frD 1)) (gN 2) (seqS (ifS (orT (notT (truO (frzO (caX isiF (consA (nmO 2) (consA (cO (.ty "tuple")) nilA)))))) (orT (tstB (binX (eq2D true) (frzO (caX (one lenD) (consA (nmO 2) nilA))) (cO (.int 2)))) (notT (truO (frzO (caX isiF (consA (frzO (binX ixD (nmO 2) (cO (.int 0)))) (consA (cO (.ty "str")) nilA)))))))) (retS (valO (cO (.bl false)))) nxS) (ifS (orT (tstB (binX (inD true) (frzO (binX ixD (nmO 2) (cO (.int 0)))) (frzO (lstX (consD (valD (cO (.str "one"))) (consD (valD (cO (.str "children"))) (consD (valD (cO (.str "stock"))) nilD))))))) (notT (truO (frzO (callX F62 [] (consA (frzO (binX ixD (nmO 2) (cO (.int 1)))) nilA)))))) (retS (valO (cO (.bl false)))) nxS))))) (retS (valO (cO (.bl true))))))
def F63 : Mo Sl := bodyF 3 g63
/-- _law_right -/
def g67 : So := (seqS (setS 1 (caX (one reprD) (consA (nmO 0) nilA))) (seqS (setS 2 (callX F22 [] (consA (nmO 0) nilA))) (seqS (ifS (orT (notT (truO (frzO (caX isiF (consA (nmO 2) (consA (cO (.ty "bool")) nilA)))))) (tstB (binX (eq2D true) (nmO 2) (frzO (callX F63 [] (consA (nmO 0) nilA)))))) (retS (valO (cO (.bl false)))) nxS) (seqS (ifS (andT (notT (truO (nmO 2))) (notT (truO (frzO (callX F66 [] (consA (nmO 0) nilA)))))) (retS (valO (cO (.bl false)))) nxS) (retS (valO (andO (frzO (binX (eq2D false) (frzO (callX F22 [] (consA (nmO 0) nilA))) (nmO 2))) (frzO (binX (eq2D false) (frzO (caX (one reprD) (consA (nmO 0) nilA))) (nmO 1))))))))))
def F67 : Mo Sl := bodyF 3 g67
/-- _law_take -/
def g59 : So := (seqS (asgS (frzD (caX (two divmodWD) (consA (frzO (binX ixD (nmO 0) (cO (.int 0)))) (consA (nmO 1) nilA)))) (gTupD 2 (gConsD (gSubD 0 (cO (.int 0))) (gConsD (gN 2) gNilD)))) (retS (mvX 2)))
def F59 : Mo Sl := bodyF 3 g59
/-- _law_odd -/
def g64 : So := (seqS (ifS (truO (frzO (caX isiF (consA (nmO 1) (consA (cO (.ty "str")) nilA))))) (seqS (setS 2 (lstX (consD (frzD (mtX "str" upperG (nmO 1) nilA)) (consD (frzD (binX addD (nmO 1) (cO (.str "s")))) (consD (valD (cO (.str ""))) (consD (frzD (binX addD (nmO 1) (cO (.str "1")))) (consD (frzD (binX addD (nmO 1) (cO (.str " ")))) (consD (valD (cO (.str "child"))) (consD (valD (cO (.str "all"))) (consD (valD (cO .non)) (consD (valD (cO (.int 0))) (consD (valD (cO (.bl true))) (consD (frzD (tupX (consD (frD 1) nilD))) nilD))))))))))))) (retS (binX ixD (frzO (binX addD (nmO 2) (frzO (lstX (consD (frzD (lstX (consD (frD 1) nilD))) (consD (frzD dic0X) (consD (frzD (tupX (consD (frzD (lstX (consD (frD 1) nilD))) nilD))) (consD (valD (cO (.str "abcdefghi"))) (consD (valD (cO (.str "one"))) nilD))))))))) (frzO (callX F59 [] (consA (nmO 0) (consA (cO (.int 16)) nilA))))))) nxS) (seqS (setS 2 (lstX (consD (frzD (caX (one listD) (consA (nmO 1) nilA))) (consD (frzD (binX addD (nmO 1) (frzO (tupX (consD (valD (cO (.str "one"))) nilD))))) (consD (frzD (slX (nmO 1) noO (ptO (cO (.int 1))))) (consD (frzD (tupX nilD)) (consD (frzD (lstX nilD)) (consD (valD (cO .non)) (consD (valD (cO (.int 0))) (consD (valD (cO (.str ""))) (consD (frzD dic0X) (consD (frzD (unX revD (nmO 1))) (consD (frzD (tupX (consD (frD 1) nilD))) (consD (valD (cO (.bl true))) nilD)))))))))))))) (retS (binX ixD (frzO (binX addD (nmO 2) (frzO (lstX (consD (frzD (binX addD (nmO 1) (frzO (slX (nmO 1) noO (ptO (cO (.int 1))))))) nilD))))) (frzO (callX F59 [] (consA (nmO 0) (consA (cO (.int 13)) nilA))))))))
def F64 : Mo Sl := bodyF 3 g64
/-- _law_bent -/
def g65 (Fr : Mo Sl) : So := (seqS (ifS (orT (notT (truO (frzO (caX isiF (consA (nmO 1) (consA (cO (.ty "tuple")) nilA)))))) (orT (tstB (binX eq0D (nmO 1) (frzO (tupX nilD)))) (orT (tstB (binX (eq2D false) (nmO 2) (cO (.int 0)))) (tstB (binX (eq2D false) (frzO (callX F59 [] (consA (nmO 0) (consA (cO (.int 7)) nilA)))) (cO (.int 0))))))) (retS (callX F64 [] (consA (nmO 0) (consA (nmO 1) nilA)))) nxS) (seqS (parS 3 4 (consD (frzD (callX F59 [] (consA (nmO 0) (consA (frzO (caX (one lenD) (consA (nmO 1) nilA))) nilA)))) (consD (frzD (callX F59 [] (consA (nmO 0) (consA (cO (.int 9)) nilA)))) nilD))) (seqS (ifS (tstB (binX (eq2D false) (nmO 4) (cO (.int 0)))) (retS (binX addD (frzO (slX (nmO 1) noO (ptO (nmO 3)))) (frzO (slX (nmO 1) (ptO (frzO (binX addD (nmO 3) (cO (.int 1))))) noO)))) nxS) (seqS (ifS (tstB (binX (eq2D false) (nmO 4) (cO (.int 1)))) (retS (binX addD (frzO (slX (nmO 1) noO (ptO (frzO (binX addD (nmO 3) (cO (.int 1))))))) (frzO (slX (nmO 1) (ptO (nmO 3)) noO)))) nxS) (retS (binX addD (frzO (binX addD (frzO (slX (nmO 1) noO (ptO (nmO 3)))) (frzO (tupX (consD (frzD (callX Fr [] (consA (nmO 0) (consA (frzO (binX ixD (nmO 1) (nmO 3))) (consA (frzO (binX subD (nmO 2) (cO (.int 1)))) nilA))))) nilD))))) (frzO (slX (nmO 1) (ptO (frzO (binX addD (nmO 3) (cO (.int 1))))) noO))))))))
def F65 : Nat → Mo Sl
  | 0 => badX
  | n + 1 => bodyF 5 (g65 (F65 n))
/-- _law_name -/
def g60 : So := (seqS (setS 1 (lstX (consD (valD (cO (.str "all"))) (consD (valD (cO (.str "and"))) (consD (valD (cO (.str "children"))) (consD (valD (cO (.str "childless"))) (consD (valD (cO (.str "crown"))) (consD (valD (cO (.str "else"))) (consD (valD (cO (.str "if"))) (consD (valD (cO (.str "lives"))) (consD (valD (cO (.str "not"))) (consD (valD (cO (.str "of"))) (consD (valD (cO (.str "or"))) (consD (valD (cO (.str "stock"))) (consD (valD (cO (.str "to"))) nilD))))))))))))))) (seqS (setS 1 (binX addD (nmO 1) (frzO (lstX (consD (valD (cO (.str "one"))) (consD (valD (cO (.str "none"))) (consD (valD (cO (.str "abcdefgh"))) (consD (valD (cO (.str "abcdefghi"))) (consD (valD (cO (.str "ann"))) (consD (valD (cO (.str "ben"))) (consD (valD (cO (.str "x"))) (consD (valD (cO (.str "give"))) (consD (valD (cO (.str "rest"))) (consD (valD (cO (.str "wait"))) (consD (valD (cO (.str "alls"))) (consD (valD (cO (.str "stocks"))) nilD)))))))))))))))) (seqS (ifS (tstB (binX (eq2D false) (frzO (callX F59 [] (consA (nmO 0) (consA (cO (.int 5)) nilA)))) (cO (.int 0)))) (retS (binX ixD (nmO 1) (frzO (callX F59 [] (consA (nmO 0) (consA (cO (.int 25)) nilA)))))) nxS) (seqS (asgS (frzD (tupX (consD (valD (cO (.str "abcdefghijklmnopqrstuvwxyz"))) (consD (valD (cO (.str ""))) nilD)))) (gTupD 2 (gConsD (gN 2) (gConsD (gN 3) gNilD)))) (seqS (forS (rg1 (frzO (binX addD (cO (.int 1)) (frzO (callX F59 [] (consA (nmO 0) (consA (cO (.int 8)) nilA))))))) (gN 4) (setS 3 (binX addD (nmO 3) (frzO (binX ixD (nmO 2) (frzO (callX F59 [] (consA (nmO 0) (consA (cO (.int 26)) nilA))))))))) (retS (mvX 3)))))))
def F60 : Mo Sl := bodyF 5 g60
/-- _law_whom -/
def g61 : So := (seqS (setS 1 (lstX nilD)) (seqS (forS (rg1 (frzO (binX ixD (frzO (lstX (consD (valD (cO (.int 1))) (consD (valD (cO (.int 2))) (consD (valD (cO (.int 4))) (consD (frzD (binX addD (cO (.int 1)) (frzO (callX F59 [] (consA (nmO 0) (consA (cO (.int 4)) nilA)))))) (consD (valD (cO (.int 3))) (consD (valD (cO (.int 5))) nilD)))))))) (frzO (callX F59 [] (consA (nmO 0) (consA (cO (.int 6)) nilA))))))) (gN 2) (seqS (setS 3 (binX ixD (frzO (lstX (consD (valD (cO (.int 1))) (consD (frzD (binX addD (cO (.int 1)) (frzO (callX F59 [] (consA (nmO 0) (consA (cO (.int 6)) nilA)))))) (consD (valD (cO (.int 6))) (consD (valD (cO (.int 2))) (consD (valD (cO (.int 1))) (consD (valD (cO (.int 7))) (consD (valD (cO (.int 3))) (consD (valD (cO (.int 1))) (consD (valD (cO (.int 1))) (consD (valD (cO (.int 2))) (consD (valD (cO (.int 4))) (consD (valD (cO (.int 2))) nilD)))))))))))))) (frzO (callX F59 [] (consA (nmO 0) (consA (cO (.int 12)) nilA)))))) (seqS (setS 4 (lstX (consD (valD (cO (.str "one"))) (consD (valD (cO (.str "children"))) (consD (valD (cO (.str "stock"))) nilD))))) (seqS (setS 5 (compX [6] (rg1 (nmO 3)) (gN 6) yesT (frzD (tupX (consD (frzD (binX ixD (nmO 4) (frzO (callX F59 [] (consA (nmO 0) (consA (cO (.int 3)) nilA)))))) (consD (frzD (callX F60 [] (consA (nmO 0) nilA))) nilD)))))) (exprS (muN 1 (muX 1 appendG (consD (frzD (caX (one tupleD) (consA (nmO 5) nilA))) nilD)))))))) (retS (caX (one tupleD) (consA (nmO 1) nilA)))))
def F61 : Mo Sl := bodyF 7 g61
/-- _law_pool -/
def g58 : So := (seqS (setS 2 (caX (one sumD) (consA (frzO (slX (nmO 0) (ptO (nmO 1)) (ptO (frzO (binX addD (nmO 1) (cO (.int 1))))))) nilA))) (seqS (ifS (orT (tstB (binX ltD (nmO 2) (cO (.int 0)))) (tstB (binX geD (nmO 2) (frzO (binX powD (cO (.int 10)) (cO (.int 18))))))) (retS (lstX (consD (frzD (binX modD (frzO (caX (one absD) (consA (nmO 2) nilA))) (frzO (binX repD (frzO (binX repD (frzO (binX repD (frzO (binX repD (frzO (binX repD (frzO (binX powD (cO (.int 10)) (cO (.int 64)))) (frzO (binX powD (cO (.int 10)) (cO (.int 64)))))) (frzO (binX powD (cO (.int 10)) (cO (.int 64)))))) (frzO (binX powD (cO (.int 10)) (cO (.int 64)))))) (frzO (binX powD (cO (.int 10)) (cO (.int 64)))))) (frzO (binX powD (cO (.int 10)) (cO (.int 64)))))))) nilD))) nxS) (seqS (setS 3 (binX addD (frzO (binX addD (frzO (binX repD (nmO 2) (cO (.int 48271)))) (frzO (binX repD (frzO (binX repD (cO (.int 977)) (nmO 1))) (nmO 1))))) (cO (.int 13)))) (seqS (setS 4 (valO (cO (.int 0)))) (seqS (forS (rg1 (cO (.int 27))) (gN 5) (seqS (setS 3 (binX modD (frzO (binX addD (frzO (binX addD (frzO (binX repD (frzO (binX modD (nmO 3) (cO (.int 999999999989)))) (cO (.int 69621)))) (frzO (binX repD (cO (.int 40503)) (nmO 5))))) (cO (.int 271)))) (cO (.int 999999999989)))) (setS 4 (binX addD (frzO (binX repD (nmO 4) (frzO (binX powD (cO (.int 10)) (cO (.int 11)))))) (frzO (binX modD (frzO (binX repD (nmO 3) (frzO (binX addD (frzO (binX modD (nmO 3) (cO (.int 65537)))) (cO (.int 3)))))) (cO (.int 99999999977)))))))) (retS (lstX (consD (frD 4) nilD))))))))
def F58 : Mo Sl := bodyF 6 g58
/-- law -/
def g68 : So := (seqS (forS (rg1 (frzO (caX (two maxD) (consA (cO (.int 2)) (consA (frzO (caX (two minD) (consA (frzO (caX (one lenD) (consA (nmO 0) nilA))) (consA (cO (.int 12)) nilA)))) nilA))))) (gN 1) (seqS (setS 2 (callX F58 [] (consA (nmO 0) (consA (nmO 1) nilA)))) (seqS (setS 3 (compX [4] (rg1 (cO (.int 6))) (gN 4) yesT (frzD (callX F59 [] (consA (nmO 2) (consA (frzO (binX powD (cO (.int 10)) (cO (.int 9)))) nilA)))))) (seqS (setS 5 (callX F61 [] (consA (nmO 2) nilA))) (seqS (ifS (notT (truO (frzO (callX F67 [] (consA (nmO 5) nilA))))) (retS (valO (cO (.bl false)))) nxS) (forS (itX (frD 3)) (gN 6) (seqS (setS 7 (binX addD (frzO (binX modD (frzO (binX repD (nmO 6) (cO (.int 48271)))) (cO (.int 999999999989)))) (frzO (binX repD (frzO (binX powD (cO (.int 10)) (cO (.int 12)))) (frzO (binX addD (frzO (binX modD (frzO (binX repD (nmO 6) (cO (.int 69621)))) (cO (.int 999999999961)))) (cO (.int 1)))))))) (ifS (notT (truO (frzO (callX F67 [] (consA (frzO (callP (F65 8) [] (lstX (consD (frD 7) nilD)) (consA (nmO 5) (consA (cO (.int 4)) nilA)))) nilA))))) (retS (valO (cO (.bl false)))) nxS)))))))) (seqS (setS 8 (lstX (consD (valD (cO .non)) (consD (valD (cO (.int 0))) (consD (valD (cO (.bl true))) (consD (valD (cO (.str ""))) (consD (valD (cO (.str "ann"))) (consD (frzD (tupX (consD (valD (cO (.str "one"))) (consD (valD (cO (.str "ann"))) nilD)))) (consD (frzD (tupX (consD (frzD (tupX (consD (valD (cO (.str "one"))) (consD (valD (cO (.str "ann"))) nilD)))) nilD))) (consD (frzD (lstX (consD (frzD (tupX (consD (frzD (tupX (consD (valD (cO (.str "one"))) (consD (valD (cO (.str "ann"))) nilD)))) nilD))) nilD))) (consD (frzD dic0X) (consD (frzD (tupX nilD)) (consD (frzD (tupX (consD (frzD (tupX nilD)) nilD))) (consD (frzD (tupX (consD (frzD (tupX (consD (frzD (tupX nilD)) nilD))) nilD))) nilD)))))))))))))) (seqS (setS 9 (tupX (consD (frzD (tupX (consD (valD (cO (.str "one"))) (consD (valD (cO (.str "ann"))) nilD)))) nilD))) (seqS (setS 8 (binX addD (nmO 8) (frzO (lstX (consD (frzD (tupX (consD (frD 9) nilD))) (consD (frzD (binX repD (frzO (tupX (consD (frzD (binX repD (nmO 9) (cO (.int 6)))) nilD))) (cO (.int 4)))) (consD (frzD (tupX (consD (frzD (binX repD (nmO 9) (cO (.int 7)))) nilD))) (consD (frzD (binX repD (frzO (tupX (consD (frD 9) nilD))) (cO (.int 5)))) nilD)))))))) (retS (caX (one (allD fun bs => bs.all id)) (consA (frzO (compX [10] (itX (frD 8)) (gN 10) yesT (frzD (callX F67 [] (consA (nmO 10) nilA))))) nilA)))))))
def F68 : Mo Sl := bodyF 11 g68
end Dn
namespace Hd
open PySem PySem.Spec PyProof.Rows L2 L2.WD Dn
def topS (i : Nat) : Stmt := PySem.Challenge.pw_willdealt_k16_what_a_whom_is.main.body.getD i (.Pass ⟨0, 0, 0, 0⟩)
abbrev s0 : Stmt := inClass (topS 3) 0
def d0 : He.DefD := ⟨("NoName", some "__init__"), "__init__", "NoName.__init__", defArgs s0, defBody s0, defScope s0, [], []⟩
abbrev s1 : Stmt := inClass (topS 4) 0
def d1 : He.DefD := ⟨("NoSum", some "__init__"), "__init__", "NoSum.__init__", defArgs s1, defBody s1, defScope s1, [], []⟩
abbrev s2 : Stmt := inClass (topS 5) 0
def d2 : He.DefD := ⟨("NoPeople", some "__init__"), "__init__", "NoPeople.__init__", defArgs s2, defBody s2, defScope s2, [], []⟩
abbrev s3 : Stmt := inClass (topS 6) 0
def d3 : He.DefD := ⟨("NoGoods", some "__init__"), "__init__", "NoGoods.__init__", defArgs s3, defBody s3, defScope s3, [], []⟩
abbrev s4 : Stmt := inClass (topS 7) 0
def d4 : He.DefD := ⟨("NoStory", some "__init__"), "__init__", "NoStory.__init__", defArgs s4, defBody s4, defScope s4, [], []⟩
abbrev s5 : Stmt := inClass (topS 8) 0
def d5 : He.DefD := ⟨("NoDay", some "__init__"), "__init__", "NoDay.__init__", defArgs s5, defBody s5, defScope s5, [], []⟩
abbrev s6 : Stmt := inClass (topS 10) 0
def d6 : He.DefD := ⟨("NoPerson", some "__init__"), "__init__", "NoPerson.__init__", defArgs s6, defBody s6, defScope s6, [], []⟩
abbrev s7 : Stmt := inClass (topS 11) 0
def d7 : He.DefD := ⟨("NoThing", some "__init__"), "__init__", "NoThing.__init__", defArgs s7, defBody s7, defScope s7, [], []⟩
abbrev s8 : Stmt := topS 18
def d8 : He.DefD := ⟨("is_whole", none), "is_whole", "is_whole", defArgs s8, defBody s8, defScope s8, [], []⟩
abbrev s9 : Stmt := topS 19
def d9 : He.DefD := ⟨("is_between", none), "is_between", "is_between", defArgs s9, defBody s9, defScope s9, [], []⟩
abbrev s10 : Stmt := topS 20
def d10 : He.DefD := ⟨("is_name", none), "is_name", "is_name", defArgs s10, defBody s10, defScope s10, [], []⟩
abbrev s11 : Stmt := topS 21
def d11 : He.DefD := ⟨("check_name", none), "check_name", "check_name", defArgs s11, defBody s11, defScope s11, [], []⟩
abbrev s12 : Stmt := topS 22
def d12 : He.DefD := ⟨("is_sum", none), "is_sum", "is_sum", defArgs s12, defBody s12, defScope s12, [], []⟩
abbrev s13 : Stmt := topS 23
def d13 : He.DefD := ⟨("check_sum", none), "check_sum", "check_sum", defArgs s13, defBody s13, defScope s13, [], []⟩
abbrev s14 : Stmt := topS 24
def d14 : He.DefD := ⟨("is_day", none), "is_day", "is_day", defArgs s14, defBody s14, defScope s14, [], []⟩
abbrev s15 : Stmt := topS 25
def d15 : He.DefD := ⟨("check_day", none), "check_day", "check_day", defArgs s15, defBody s15, defScope s15, [], []⟩
abbrev s16 : Stmt := topS 27
def d16 : He.DefD := ⟨("divisor", none), "divisor", "divisor", defArgs s16, defBody s16, defScope s16, [], []⟩
abbrev s17 : Stmt := topS 28
def d17 : He.DefD := ⟨("low", none), "low", "low", defArgs s17, defBody s17, defScope s17, [], []⟩
abbrev s18 : Stmt := topS 29
def d18 : He.DefD := ⟨("add", none), "add", "add", defArgs s18, defBody s18, defScope s18, [], []⟩
abbrev s19 : Stmt := topS 30
def d19 : He.DefD := ⟨("divided", none), "divided", "divided", defArgs s19, defBody s19, defScope s19, [], []⟩
abbrev s20 : Stmt := topS 35
def d20 : He.DefD := ⟨("is_part", none), "is_part", "is_part", defArgs s20, defBody s20, defScope s20, [], []⟩
abbrev s21 : Stmt := topS 36
def d21 : He.DefD := ⟨("are_parts", none), "are_parts", "are_parts", defArgs s21, defBody s21, defScope s21, [], []⟩
abbrev s22 : Stmt := topS 37
def d22 : He.DefD := ⟨("is_whom", none), "is_whom", "is_whom", defArgs s22, defBody s22, defScope s22, [], []⟩
abbrev s23 : Stmt := topS 38
def d23 : He.DefD := ⟨("check_whom", none), "check_whom", "check_whom", defArgs s23, defBody s23, defScope s23, [], []⟩
abbrev s24 : Stmt := topS 39
def d24 : He.DefD := ⟨("names_to", none), "names_to", "names_to", defArgs s24, defBody s24, defScope s24, [], []⟩
abbrev s25 : Stmt := topS 40
def d25 : He.DefD := ⟨("evenly", none), "evenly", "evenly", defArgs s25, defBody s25, defScope s25, [], []⟩
abbrev s26 : Stmt := topS 41
def d26 : He.DefD := ⟨("stock_of", none), "stock_of", "stock_of", defArgs s26, defBody s26, defScope s26, [], []⟩
abbrev s27 : Stmt := topS 42
def d27 : He.DefD := ⟨("alone", none), "alone", "alone", defArgs s27, defBody s27, defScope s27, [], []⟩
abbrev s28 : Stmt := topS 43
def d28 : He.DefD := ⟨("part_of", none), "part_of", "part_of", defArgs s28, defBody s28, defScope s28, [], []⟩
abbrev s29 : Stmt := topS 44
def d29 : He.DefD := ⟨("gathered", none), "gathered", "gathered", defArgs s29, defBody s29, defScope s29, [], []⟩
abbrev s30 : Stmt := topS 45
def d30 : He.DefD := ⟨("shared", none), "shared", "shared", defArgs s30, defBody s30, defScope s30, [], []⟩
abbrev s31 : Stmt := topS 46
def d31 : He.DefD := ⟨("takers", none), "takers", "takers", defArgs s31, defBody s31, defScope s31, [.int 0], []⟩
abbrev s32 : Stmt := topS 50
def d32 : He.DefD := ⟨("is_person", none), "is_person", "is_person", defArgs s32, defBody s32, defScope s32, [], []⟩
abbrev s33 : Stmt := topS 51
def d33 : He.DefD := ⟨("check_people", none), "check_people", "check_people", defArgs s33, defBody s33, defScope s33, [], []⟩
abbrev s34 : Stmt := topS 52
def d34 : He.DefD := ⟨("is_ware", none), "is_ware", "is_ware", defArgs s34, defBody s34, defScope s34, [], []⟩
abbrev s35 : Stmt := topS 53
def d35 : He.DefD := ⟨("check_goods", none), "check_goods", "check_goods", defArgs s35, defBody s35, defScope s35, [], []⟩
abbrev s36 : Stmt := inClass (topS 54) 0
def d36 : He.DefD := ⟨("House", some "__init__"), "__init__", "House.__init__", defArgs s36, defBody s36, defScope s36, [.non, .int 0, .int 0], []⟩
abbrev s37 : Stmt := inClass (topS 54) 1
def d37 : He.DefD := ⟨("House", some "__eq__"), "__eq__", "House.__eq__", defArgs s37, defBody s37, defScope s37, [], []⟩
abbrev s38 : Stmt := inClass (topS 54) 2
def d38 : He.DefD := ⟨("House", some "__len__"), "__len__", "House.__len__", defArgs s38, defBody s38, defScope s38, [], []⟩
abbrev s39 : Stmt := inClass (topS 54) 3
def d39 : He.DefD := ⟨("House", some "__str__"), "__str__", "House.__str__", defArgs s39, defBody s39, defScope s39, [], []⟩
abbrev s40 : Stmt := inClass (topS 54) 4
def d40 : He.DefD := ⟨("House", some "__repr__"), "__repr__", "House.__repr__", defArgs s40, defBody s40, defScope s40, [], []⟩
abbrev s41 : Stmt := inClass (topS 54) 5
def d41 : He.DefD := ⟨("House", some "people"), "people", "House.people", defArgs s41, defBody s41, defScope s41, [], []⟩
abbrev s42 : Stmt := inClass (topS 54) 6
def d42 : He.DefD := ⟨("House", some "parent"), "parent", "House.parent", defArgs s42, defBody s42, defScope s42, [], []⟩
abbrev s43 : Stmt := inClass (topS 54) 7
def d43 : He.DefD := ⟨("House", some "children"), "children", "House.children", defArgs s43, defBody s43, defScope s43, [], []⟩
abbrev s44 : Stmt := inClass (topS 54) 8
def d44 : He.DefD := ⟨("House", some "ware"), "ware", "House.ware", defArgs s44, defBody s44, defScope s44, [], []⟩
abbrev s45 : Stmt := inClass (topS 54) 9
def d45 : He.DefD := ⟨("House", some "kind"), "kind", "House.kind", defArgs s45, defBody s45, defScope s45, [], []⟩
abbrev s46 : Stmt := inClass (topS 54) 10
def d46 : He.DefD := ⟨("House", some "worth"), "worth", "House.worth", defArgs s46, defBody s46, defScope s46, [], []⟩
abbrev s47 : Stmt := inClass (topS 54) 11
def d47 : He.DefD := ⟨("House", some "goods"), "goods", "House.goods", defArgs s47, defBody s47, defScope s47, [], []⟩
abbrev s48 : Stmt := topS 55
def d48 : He.DefD := ⟨("person_row", none), "person_row", "person_row", defArgs s48, defBody s48, defScope s48, [], []⟩
abbrev s49 : Stmt := topS 58
def d49 : He.DefD := ⟨("is_death", none), "is_death", "is_death", defArgs s49, defBody s49, defScope s49, [], []⟩
abbrev s50 : Stmt := topS 59
def d50 : He.DefD := ⟨("check_deaths", none), "check_deaths", "check_deaths", defArgs s50, defBody s50, defScope s50, [], []⟩
abbrev s51 : Stmt := inClass (topS 60) 0
def d51 : He.DefD := ⟨("Story", some "__init__"), "__init__", "Story.__init__", defArgs s51, defBody s51, defScope s51, [.non], []⟩
abbrev s52 : Stmt := inClass (topS 60) 1
def d52 : He.DefD := ⟨("Story", some "__eq__"), "__eq__", "Story.__eq__", defArgs s52, defBody s52, defScope s52, [], []⟩
abbrev s53 : Stmt := inClass (topS 60) 2
def d53 : He.DefD := ⟨("Story", some "__len__"), "__len__", "Story.__len__", defArgs s53, defBody s53, defScope s53, [], []⟩
abbrev s54 : Stmt := inClass (topS 60) 3
def d54 : He.DefD := ⟨("Story", some "__str__"), "__str__", "Story.__str__", defArgs s54, defBody s54, defScope s54, [], []⟩
abbrev s55 : Stmt := inClass (topS 60) 4
def d55 : He.DefD := ⟨("Story", some "__repr__"), "__repr__", "Story.__repr__", defArgs s55, defBody s55, defScope s55, [], []⟩
abbrev s56 : Stmt := inClass (topS 60) 5
def d56 : He.DefD := ⟨("Story", some "died"), "died", "Story.died", defArgs s56, defBody s56, defScope s56, [], []⟩
abbrev s57 : Stmt := inClass (topS 60) 6
def d57 : He.DefD := ⟨("Story", some "lives"), "lives", "Story.lives", defArgs s57, defBody s57, defScope s57, [], []⟩
abbrev s58 : Stmt := topS 62
def d58 : He.DefD := ⟨("_law_pool", none), "_law_pool", "_law_pool", defArgs s58, defBody s58, defScope s58, [], []⟩
abbrev s59 : Stmt := topS 63
def d59 : He.DefD := ⟨("_law_take", none), "_law_take", "_law_take", defArgs s59, defBody s59, defScope s59, [], []⟩
abbrev s60 : Stmt := topS 64
def d60 : He.DefD := ⟨("_law_name", none), "_law_name", "_law_name", defArgs s60, defBody s60, defScope s60, [], []⟩
abbrev s61 : Stmt := topS 65
def d61 : He.DefD := ⟨("_law_whom", none), "_law_whom", "_law_whom", defArgs s61, defBody s61, defScope s61, [], []⟩
abbrev s62 : Stmt := topS 66
def d62 : He.DefD := ⟨("_law_is_name", none), "_law_is_name", "_law_is_name", defArgs s62, defBody s62, defScope s62, [], []⟩
abbrev s63 : Stmt := topS 67
def d63 : He.DefD := ⟨("_law_due", none), "_law_due", "_law_due", defArgs s63, defBody s63, defScope s63, [], []⟩
abbrev s64 : Stmt := topS 68
def d64 : He.DefD := ⟨("_law_odd", none), "_law_odd", "_law_odd", defArgs s64, defBody s64, defScope s64, [], []⟩
abbrev s65 : Stmt := topS 69
def d65 : He.DefD := ⟨("_law_bent", none), "_law_bent", "_law_bent", defArgs s65, defBody s65, defScope s65, [], []⟩
abbrev s66 : Stmt := topS 70
def d66 : He.DefD := ⟨("_law_refused", none), "_law_refused", "_law_refused", defArgs s66, defBody s66, defScope s66, [], []⟩
abbrev s67 : Stmt := topS 71
def d67 : He.DefD := ⟨("_law_right", none), "_law_right", "_law_right", defArgs s67, defBody s67, defScope s67, [], []⟩
abbrev s68 : Stmt := topS 72
def d68 : He.DefD := ⟨("law", none), "law", "law", defArgs s68, defBody s68, defScope s68, [], []⟩
def fn : List He.DefD := [d1, d2, d3, d4, d6, d8, d9, d10, d12, d13, d14, d20, d21, d22, d23, d31, d32, d33, d34, d35, d36, d42, d49, d50, d51, d58, d59, d60, d61, d62, d63, d64, d65, d66, d67, d68]
def exmL : List Nat := [10]
def cn : List Str := [("WordError" : Str), ("LostError" : Str), ("NoName" : Str), ("NoSum" : Str), ("NoPeople" : Str), ("NoGoods" : Str), ("NoStory" : Str), ("NoDay" : Str), ("NoWhom" : Str), ("NoPerson" : Str), ("NoThing" : Str), ("House" : Str), ("Story" : Str)]
def fa : List He.Fa := [.glo "PART_WORDS", .str "LETTERS" "abcdefghijklmnopqrstuvwxyz", .free "all", .free "str", .free "isinstance", .free "len", .int "MOST_LETTERS" 8, .glo "WORDS", .glo "is_name", .free "tuple", .glo "is_part", .int "MOST_PARTS" 6, .glo "are_parts", .int "MOST_ALTERNATIVES" 4, .glo "is_whom", .free "repr", .glo "LostError", .glo "NoPerson", .cls "House", .noat "House" "folk", .meth "House" "parent", .glo "NoWhom", .glo "check_whom", .cls "Story", .noat "Story" "deaths", .free "enumerate", .free "int", .free "bool", .glo "is_whole", .int "MOST_DAY" 9999, .glo "is_between", .glo "is_day", .glo "is_death", .glo "WordError", .glo "NoStory", .int "MOST_DEATHS" 8, .glo "check_deaths", .mkr "Story", .glo "Story", .noat "House" "debts", .noat "House" "purse", .noat "House" "wares", .int "MOST_SUM" 1000000000, .glo "is_sum", .glo "NoSum", .glo "check_sum", .glo "is_ware", .glo "NoGoods", .int "MOST_GOODS" 8, .glo "check_goods", .glo "is_person", .glo "NoPeople", .int "MOST_PEOPLE" 8, .glo "check_people", .mkr "House", .glo "House", .glo "takers", .glo "_law_refused", .glo "_law_is_name", .glo "_law_due", .glo "_law_right", .free "range", .free "min", .free "max", .glo "_law_bent", .free "divmod", .glo "_law_take", .free "list", .glo "_law_odd", .glo "_law_name", .glo "_law_whom", .free "abs", .free "sum", .glo "_law_pool", .glo "law"]
def exl : List (PySem.W.Frag → Bool) := [fun K => He.tupB K "PART_WORDS" [.str "one", .str "children", .str "stock"],
  fun K => He.tupB K "WORDS" [.str "all", .str "and", .str "children", .str "childless", .str "crown", .str "else", .str "if", .str "lives", .str "not", .str "of", .str "or", .str "stock", .str "to"],
  fun K => oexB K tlL "LookupError.__new__" (He.ga K "NoPerson"),
  fun K => noB K (He.ga K "NoPerson") "name",
  fun K => baseB K (He.ga K "LostError") "LookupError.__init__",
  fun K => iniB K (He.ga K "NoPerson") (He.ma K (He.ga K "NoPerson") "__init__"),
  fun K => exc0B K tlV "ValueError.__new__" (He.ga K "NoWhom"),
  fun K => oexB K tlV "ValueError.__new__" (He.ga K "NoStory"),
  fun K => noB K (He.ga K "NoStory") "number",
  fun K => baseB K (He.ga K "WordError") "ValueError.__init__",
  fun K => iniB K (He.ga K "NoStory") (He.ma K (He.ga K "NoStory") "__init__"),
  fun K => oexB K tlV "ValueError.__new__" (He.ga K "NoSum"),
  fun K => noB K (He.ga K "NoSum") "thing",
  fun K => iniB K (He.ga K "NoSum") (He.ma K (He.ga K "NoSum") "__init__"),
  fun K => oexB K tlV "ValueError.__new__" (He.ga K "NoGoods"),
  fun K => noB K (He.ga K "NoGoods") "number",
  fun K => iniB K (He.ga K "NoGoods") (He.ma K (He.ga K "NoGoods") "__init__"),
  fun K => oexB K tlV "ValueError.__new__" (He.ga K "NoPeople"),
  fun K => noB K (He.ga K "NoPeople") "number",
  fun K => iniB K (He.ga K "NoPeople") (He.ma K (He.ga K "NoPeople") "__init__"),
  fun K => isiB (evOf cn K fun _ => none) isiKs ancL,
  fun K => excB K (He.ga K "WordError"),
  fun K => excB K (He.ga K "LostError"),
  fun K => excB K (He.ga K "NoName"),
  fun K => excB K (He.ga K "NoSum"),
  fun K => excB K (He.ga K "NoPeople"),
  fun K => excB K (He.ga K "NoGoods"),
  fun K => excB K (He.ga K "NoStory"),
  fun K => excB K (He.ga K "NoDay"),
  fun K => excB K (He.ga K "NoWhom"),
  fun K => excB K (He.ga K "NoPerson"),
  fun K => excB K (He.ga K "NoThing"),
  fun K => insB K (He.ga K "House"),
  fun K => insB K (He.ga K "Story"),
  fun K => exmB (evOf cn K fun _ => none) excL exmL ancL]
def ex (K : PySem.W.Frag) : Bool := exl.all fun f => f K
abbrev E (K : PySem.W.Frag) (mg : Str → Option Value) : Ev := evOf cn K mg
abbrev R : PySem.W.OpenRow := PySem.W.OpenLaw.row PySem.Challenge.rw_willdealt_k16_what_a_whom_is
abbrev hk : PySem.W.Hook := hookY 4 fa fn ex
def ob (s : PySem.W.SharedT) : AlY := obsY 4 fa fn ex (HandSHeadRun.getT s)
theorem ob_eq (s : PySem.W.SharedT) : ob s = hk.obs s.abs := obsY_eq (HandSHeadRun.getT_eq s)
def nm0 : List PySem.Str := [("WordError" : PySem.Str), ("LostError" : PySem.Str), ("NoName" : PySem.Str), ("NoSum" : PySem.Str), ("NoPeople" : PySem.Str), ("NoGoods" : PySem.Str), ("NoStory" : PySem.Str), ("NoDay" : PySem.Str), ("NoWhom" : PySem.Str), ("NoPerson" : PySem.Str), ("NoThing" : PySem.Str), ("LETTERS" : PySem.Str), ("MOST_LETTERS" : PySem.Str), ("MOST_SUM" : PySem.Str), ("MOST_DAY" : PySem.Str), ("WORDS" : PySem.Str), ("is_whole" : PySem.Str), ("is_between" : PySem.Str), ("is_name" : PySem.Str), ("check_name" : PySem.Str), ("is_sum" : PySem.Str), ("check_sum" : PySem.Str), ("is_day" : PySem.Str), ("check_day" : PySem.Str), ("divisor" : PySem.Str), ("low" : PySem.Str), ("add" : PySem.Str), ("divided" : PySem.Str), ("MOST_ALTERNATIVES" : PySem.Str), ("MOST_PARTS" : PySem.Str), ("PART_WORDS" : PySem.Str), ("is_part" : PySem.Str), ("are_parts" : PySem.Str), ("is_whom" : PySem.Str), ("check_whom" : PySem.Str), ("names_to" : PySem.Str), ("evenly" : PySem.Str), ("stock_of" : PySem.Str), ("alone" : PySem.Str), ("part_of" : PySem.Str)]
def nm1 : List PySem.Str := [("gathered" : PySem.Str), ("shared" : PySem.Str), ("takers" : PySem.Str), ("MOST_PEOPLE" : PySem.Str), ("MOST_GOODS" : PySem.Str), ("is_person" : PySem.Str), ("check_people" : PySem.Str), ("is_ware" : PySem.Str), ("check_goods" : PySem.Str), ("House" : PySem.Str), ("person_row" : PySem.Str), ("MOST_DEATHS" : PySem.Str), ("is_death" : PySem.Str), ("check_deaths" : PySem.Str), ("Story" : PySem.Str), ("_law_pool" : PySem.Str), ("_law_take" : PySem.Str), ("_law_name" : PySem.Str), ("_law_whom" : PySem.Str), ("_law_is_name" : PySem.Str), ("_law_due" : PySem.Str), ("_law_odd" : PySem.Str), ("_law_bent" : PySem.Str), ("_law_refused" : PySem.Str), ("_law_right" : PySem.Str)]
def nms : List PySem.Str := nm0 ++ nm1
open PySem PySem.W PySem.Calls in
theorem run1 (w : World) (os : OsState) : (HandSHeadRun.endF (HandSHeadRun.stepQ (HandSHeadRun.denQ HandSHeadRun.tabQ) R.prog w) 20000 R.prog w os).map (fun s => (HandSHeadRun.looksF R.prog (boot_heap w.params) s.abs, HandSHeadRun.seenQ (PySem.W.view R.prog [72]) nms (importedModules R.prog.main.body) (fun s => xlAt (PySem.W.view R.prog [72]) [] s && recOk R.toRowW.records s) s.abs)) = some (true, openGood (PySem.W.view R.prog [72]) nms) := by
  kernel_rfl
theorem run2 (w : World) (os : OsState) : (HandSHeadRun.endF (HandSHeadRun.stepQ (HandSHeadRun.denQ HandSHeadRun.tabQ) R.prog w) 20000 R.prog w os).map (fun s => He.obsD fa fn (KT 4 s)) = some (He.valD fn) := by
  kernel_rfl
theorem run3 (w : World) (os : OsState) : (HandSHeadRun.endF (HandSHeadRun.stepQ (HandSHeadRun.denQ HandSHeadRun.tabQ) R.prog w) 20000 R.prog w os).map (fun s => ex (KT 4 s)) = some true := by
  kernel_rfl
theorem run (w : World) : HandSHeadRun.RunEq R (PySem.W.view R.prog [72]) hk ob 20000 nms w := run_split (run1 w) (run2 w) (run3 w)
structure All (K : PySem.W.Frag) (mg : Str → Option Value) (h : Heap) : Prop where
  c : He.SaysD fa fn K
  X : K.In h
  G : h.Ns mainGlobals mg
  ex : ex K = true
section
variable {K : PySem.W.Frag} {mg : Str → Option Value} {h : Heap} {P : Program} {w : World} {base : Heap}
theorem All.glo (A : All K mg h) (i : Nat) {x : Str} (q : fa[i]? = some (.glo x)) : (E K mg).mg x = some (.ref (He.ga K x)) := He.glo_ok A.X A.G (A.c.fact i q)
theorem All.fre (A : All K mg h) (i : Nat) {x : Str} (q : fa[i]? = some (.free x)) : (E K mg).mg x = none := He.free_ok A.X A.G (A.c.fact i q)
theorem All.int (A : All K mg h) {X : Cx} {W : WX} (C : EC X (E K mg) W) (i : Nat) {x : Str} {n : Int} (q : fa[i]? = some (.int x n)) : ∃ t, X.mg x = some (.int n t) := by
  rw [C.mg]; exact He.int_ok A.X A.G (A.c.fact i q)
theorem All.str (A : All K mg h) {X : Cx} {W : WX} (C : EC X (E K mg) W) (i : Nat) {x z : Str} (q : fa[i]? = some (.str x z)) : ∃ t, X.mg x = some (.str z t) := by
  rw [C.mg]; exact He.str_ok A.X A.G (A.c.fact i q)
theorem All.exf (A : All K mg h) (i : Nat) {f : PySem.W.Frag → Bool} (q : exl[i]? = some f) : f K = true := List.all_eq_true.mp A.ex f (List.mem_of_getElem? q)
theorem isi_ok (A : All K mg h) : IsiT (E K mg) (ancT isiKs ancL) insL.contains excL.contains := by
  refine ⟨fun a b r q => isiB_ok (e := E K mg) (A.exf 20 rfl) a b r q, fun c hc => ?_, fun c hc => ?_⟩
  · have hc : c ∈ insL := by simpa using hc
    simp only [insL, List.mem_cons, List.not_mem_nil, or_false] at hc
    rcases hc with rfl | rfl
    · exact insB_ok (A.exf 32 rfl)
    · exact insB_ok (A.exf 33 rfl)
  · have hc : c ∈ excL := by simpa using hc
    simp only [excL, List.mem_cons, List.not_mem_nil, or_false] at hc
    rcases hc with rfl | rfl | rfl | rfl | rfl | rfl | rfl | rfl | rfl | rfl | rfl
    · exact excB_ok (A.exf 21 rfl)
    · exact excB_ok (A.exf 22 rfl)
    · exact excB_ok (A.exf 23 rfl)
    · exact excB_ok (A.exf 24 rfl)
    · exact excB_ok (A.exf 25 rfl)
    · exact excB_ok (A.exf 26 rfl)
    · exact excB_ok (A.exf 27 rfl)
    · exact excB_ok (A.exf 28 rfl)
    · exact excB_ok (A.exf 29 rfl)
    · exact excB_ok (A.exf 30 rfl)
    · exact excB_ok (A.exf 31 rfl)
theorem exm_ok (A : All K mg h) {k : Nat} (hk : k ∈ exmL) (c : Nat) (b : Bool) (q : catF k c = some b) : PySem.W.exmOne (E K mg).K (.ref ((E K mg).ca c)) (kdV (E K mg) k) = some b := exmB_ok (e := E K mg) (A.exf 34 rfl) hk c b q
theorem tc_PART_WORDS (A : All K mg h) : ∀ G, DR (E K mg) G (.ref (He.ga K "PART_WORDS")) c_PART_WORDS := fun G => .tup (He.tupB_ok (x := "PART_WORDS") (A.exf 0 rfl) G) (.cons (.str _) (.cons (.str _) (.cons (.str _) .nil)))
theorem tc_WORDS (A : All K mg h) : ∀ G, DR (E K mg) G (.ref (He.ga K "WORDS")) c_WORDS := fun G => .tup (He.tupB_ok (x := "WORDS") (A.exf 1 rfl) G) (.cons (.str _) (.cons (.str _) (.cons (.str _) (.cons (.str _) (.cons (.str _) (.cons (.str _) (.cons (.str _) (.cons (.str _) (.cons (.str _) (.cons (.str _) (.cons (.str _) (.cons (.str _) (.cons (.str _) .nil)))))))))))))
theorem at_folk_11 (A : All K mg h) : ∀ c ∈ ([(11, false)] : List (Nat × Bool)), AttOk (E K mg) "folk" c.1 c.2 := by
  intro c hc
  simp only [List.mem_cons, List.not_mem_nil, or_false] at hc
  rcases hc with rfl
  · exact .ins (He.cls_ok (A.c.fact 18 rfl)) (He.noat_ok (A.c.fact 19 rfl))
def N10 : List Str := [("thing" : Str), ("sign" : Str)]
abbrev sc10 : Scope := defScope s10
theorem S10 : FnScope N10 [("thing" : Str)] sc10 := ⟨rfl, rfl, rfl, by decide +kernel, rfl, by decide +kernel, by decide +kernel⟩
theorem ok10 (A : All K mg h) : ∃ fd, Ok P w (E K mg) base d10 1 [("thing" : Str)] F10 fd := by
  obtain ⟨fd, FD⟩ := A.c.def_ 7 (d := d10) rfl
  refine ⟨fd, ⟨fnD_ok (N := N10) (g := g10) (k := 0) FD S10 fun X W C cm hP hw hb0 r hX => ?_, FD⟩⟩
  have F : CF X N10 sc10 := by obtain ⟨_, _, _, _, _, _, rfl⟩ := hX; exact ⟨rfl, rfl⟩
  have hb : X.env.blockKind = .function := by obtain ⟨_, _, _, _, _, _, rfl⟩ := hX; rfl
  have hf : ∀ x, X.fn x = true := by obtain ⟨_, _, _, _, _, _, rfl⟩ := hX; intro _; rfl
  have T : At X P w base := ⟨hP, hw, hb0⟩
  clear hX
  exact
   (ss_cons (ss_if (xw_or (xt_not (xt_tru C (xo_of (xx_callB (call_isU C.K) (cg_isi (isi_ok A)) (F.g (by kernel_rfl)) (C.gm (A.fre 4 rfl)) (by kernel_rfl) (xa_cons (xo_name (pn F 0 (by kernel_rfl))) (xa_cons (xo_gty (F.g (by kernel_rfl)) (C.gm (A.fre 3 rfl)) (by kernel_rfl)) xa_nil)))))) (xw_or (xt_not (xt_chain op_leU op_leU og_cmp og_cmp xo_int (xo_of (xx_callB (call_lenU C.K) cg_len (F.g (by kernel_rfl)) (C.gm (A.fre 5 rfl)) (by kernel_rfl) (xa_cons (xo_name (pn F 0 (by kernel_rfl))) xa_nil))) (xo_gint (F.g (by kernel_rfl)) (A.int C 6 rfl)))) (xw_or1 (xt_cmp (op_inU C.K) og_in (xo_name (pn F 0 (by kernel_rfl))) (xo_gref (F.g (by kernel_rfl)) (C.gm (A.glo 7 rfl)) (tc_WORDS A)) (by with_unfolding_all rfl))))).pt
    (ss_one (ss_ret (xx_of xo_bl)))
    ss_nil)
    (ss_one (ss_ret (xx_callB (call_allU C.K cm) cg_all (F.g (by kernel_rfl)) (C.gm (A.fre 2 rfl)) (by kernel_rfl) (xa_cons (xo_of (xx_comp C cm (own := [(("sign" : Str), 1)]) (is := [1]) (xi_any C.K (xd_nm (pn F 0 (by kernel_rfl)))) (F.blk (by kernel_rfl)) (by decide) (fun Y C1 cm1 hY => by
    have F1 := F.subY hY
    have T1 := T.subY hY
    have r1 := roomY r hY
    exact ⟨(sgb C1 F1 1 (by kernel_rfl)), xts_nil, (xx_cmp (op_inU C1.K) og_in (xo_name (pn F1 1 (by kernel_rfl))) (xo_gstr (F1.g (by kernel_rfl)) (A.str C1 1 rfl)) (by with_unfolding_all rfl))⟩))) xa_nil)))))
def N20 : List Str := [("thing" : Str)]
abbrev sc20 : Scope := defScope s20
theorem S20 : FnScope N20 [("thing" : Str)] sc20 := ⟨rfl, rfl, rfl, by decide +kernel, rfl, by decide +kernel, by decide +kernel⟩
theorem ok20 (A : All K mg h) : ∃ fd, Ok P w (E K mg) base d20 2 [("thing" : Str)] F20 fd := by
  obtain ⟨fd, FD⟩ := A.c.def_ 11 (d := d20) rfl
  obtain ⟨fd10, O10⟩ := ok10 (P := P) (w := w) (base := base) A
  have b10_1 : ∃ ds, Vals ([] : List V) ds ∧ Binds (E K mg).K fd10 [("thing" : Str)] ds := ⟨[], .nil, O10.fd.bindsN fun _ _ _ _ _ _ us hl => match us, hl with | [_], _ => rfl⟩
  refine ⟨fd, ⟨fnD_ok (N := N20) (g := g20) (k := 1) FD S20 fun X W C cm hP hw hb0 r hX => ?_, FD⟩⟩
  have F : CF X N20 sc20 := by obtain ⟨_, _, _, _, _, _, rfl⟩ := hX; exact ⟨rfl, rfl⟩
  have hb : X.env.blockKind = .function := by obtain ⟨_, _, _, _, _, _, rfl⟩ := hX; rfl
  have hf : ∀ x, X.fn x = true := by obtain ⟨_, _, _, _, _, _, rfl⟩ := hX; intro _; rfl
  have T : At X P w base := ⟨hP, hw, hb0⟩
  clear hX
  exact
   (ss_cons (ss_if (xw_or (xt_not (xt_tru C (xo_of (xx_callB (call_isU C.K) (cg_isi (isi_ok A)) (F.g (by kernel_rfl)) (C.gm (A.fre 4 rfl)) (by kernel_rfl) (xa_cons (xo_name (pn F 0 (by kernel_rfl))) (xa_cons (xo_gty (F.g (by kernel_rfl)) (C.gm (A.fre 9 rfl)) (by kernel_rfl)) xa_nil)))))) (xw_or (xt_cmp (op_ne2 C.K (roomU r)) og_ne2 (xo_of (xx_callB (call_lenU C.K) cg_len (F.g (by kernel_rfl)) (C.gm (A.fre 5 rfl)) (by kernel_rfl) (xa_cons (xo_name (pn F 0 (by kernel_rfl))) xa_nil))) xo_int (nomark _)) (xw_or1 (xt_not (xt_tru C (xo_of (xx_callB (call_isU C.K) (cg_isi (isi_ok A)) (F.g (by kernel_rfl)) (C.gm (A.fre 4 rfl)) (by kernel_rfl) (xa_cons (xo_of (xx_ix C.K (xo_name (pn F 0 (by kernel_rfl))) xo_int (fun _ _ => rfl))) (xa_cons (xo_gty (F.g (by kernel_rfl)) (C.gm (A.fre 3 rfl)) (by kernel_rfl)) xa_nil))))))))).pt
    (ss_one (ss_ret (xx_of xo_bl)))
    ss_nil)
    (ss_one (ss_ret (xx_of (xo_and C (xo_of (xx_cmp (op_inU C.K) og_in (xo_of (xx_ix C.K (xo_name (pn F 0 (by kernel_rfl))) xo_int (fun _ _ => rfl))) (xo_gref (F.g (by kernel_rfl)) (C.gm (A.glo 0 rfl)) (tc_PART_WORDS A)) (by with_unfolding_all rfl))) (xo_one (xo_of (xc (k0 := 1) C T r F O10 b10_1 (A.glo 8 rfl) (by omega) (by kernel_rfl) (fun _ => .nil) (xa_cons (xo_of (xx_ix C.K (xo_name (pn F 0 (by kernel_rfl))) xo_int (fun _ _ => rfl))) xa_nil) (lenA_cons lenA_nil) rfl))))))))
def N21 : List Str := [("thing" : Str), ("part" : Str)]
abbrev sc21 : Scope := defScope s21
theorem S21 : FnScope N21 [("thing" : Str)] sc21 := ⟨rfl, rfl, rfl, by decide +kernel, rfl, by decide +kernel, by decide +kernel⟩
theorem ok21 (A : All K mg h) : ∃ fd, Ok P w (E K mg) base d21 3 [("thing" : Str)] F21 fd := by
  obtain ⟨fd, FD⟩ := A.c.def_ 12 (d := d21) rfl
  obtain ⟨fd20, O20⟩ := ok20 (P := P) (w := w) (base := base) A
  have b20_1 : ∃ ds, Vals ([] : List V) ds ∧ Binds (E K mg).K fd20 [("thing" : Str)] ds := ⟨[], .nil, O20.fd.bindsN fun _ _ _ _ _ _ us hl => match us, hl with | [_], _ => rfl⟩
  refine ⟨fd, ⟨fnD_ok (N := N21) (g := g21) (k := 2) FD S21 fun X W C cm hP hw hb0 r hX => ?_, FD⟩⟩
  have F : CF X N21 sc21 := by obtain ⟨_, _, _, _, _, _, rfl⟩ := hX; exact ⟨rfl, rfl⟩
  have hb : X.env.blockKind = .function := by obtain ⟨_, _, _, _, _, _, rfl⟩ := hX; rfl
  have hf : ∀ x, X.fn x = true := by obtain ⟨_, _, _, _, _, _, rfl⟩ := hX; intro _; rfl
  have T : At X P w base := ⟨hP, hw, hb0⟩
  clear hX
  exact
   (ss_cons (ss_if (xw_or (xt_not (xt_tru C (xo_of (xx_callB (call_isU C.K) (cg_isi (isi_ok A)) (F.g (by kernel_rfl)) (C.gm (A.fre 4 rfl)) (by kernel_rfl) (xa_cons (xo_name (pn F 0 (by kernel_rfl))) (xa_cons (xo_gty (F.g (by kernel_rfl)) (C.gm (A.fre 9 rfl)) (by kernel_rfl)) xa_nil)))))) (xw_or1 (xt_not (xt_chain op_leU op_leU og_cmp og_cmp xo_int (xo_of (xx_callB (call_lenU C.K) cg_len (F.g (by kernel_rfl)) (C.gm (A.fre 5 rfl)) (by kernel_rfl) (xa_cons (xo_name (pn F 0 (by kernel_rfl))) xa_nil))) (xo_gint (F.g (by kernel_rfl)) (A.int C 11 rfl)))))).pt
    (ss_one (ss_ret (xx_of xo_bl)))
    ss_nil)
    (ss_one (ss_ret (xx_callB (call_allU C.K cm) cg_all (F.g (by kernel_rfl)) (C.gm (A.fre 2 rfl)) (by kernel_rfl) (xa_cons (xo_of (xx_comp C cm (own := [(("part" : Str), 1)]) (is := [1]) (xi_any C.K (xd_nm (pn F 0 (by kernel_rfl)))) (F.blk (by kernel_rfl)) (by decide) (fun Y C1 cm1 hY => by
    have F1 := F.subY hY
    have T1 := T.subY hY
    have r1 := roomY r hY
    exact ⟨(sgb C1 F1 1 (by kernel_rfl)), xts_nil, (xc (k0 := 2) C1 T1 r1 F1 O20 b20_1 (A.glo 10 rfl) (by omega) (by kernel_rfl) (fun _ => .nil) (xa_cons (xo_name (pn F1 1 (by kernel_rfl))) xa_nil) (lenA_cons lenA_nil) rfl)⟩))) xa_nil)))))
def N22 : List Str := [("thing" : Str), ("parts" : Str)]
abbrev sc22 : Scope := defScope s22
theorem S22 : FnScope N22 [("thing" : Str)] sc22 := ⟨rfl, rfl, rfl, by decide +kernel, rfl, by decide +kernel, by decide +kernel⟩
theorem ok22 (A : All K mg h) : ∃ fd, Ok P w (E K mg) base d22 4 [("thing" : Str)] F22 fd := by
  obtain ⟨fd, FD⟩ := A.c.def_ 13 (d := d22) rfl
  obtain ⟨fd21, O21⟩ := ok21 (P := P) (w := w) (base := base) A
  have b21_1 : ∃ ds, Vals ([] : List V) ds ∧ Binds (E K mg).K fd21 [("thing" : Str)] ds := ⟨[], .nil, O21.fd.bindsN fun _ _ _ _ _ _ us hl => match us, hl with | [_], _ => rfl⟩
  refine ⟨fd, ⟨fnD_ok (N := N22) (g := g22) (k := 3) FD S22 fun X W C cm hP hw hb0 r hX => ?_, FD⟩⟩
  have F : CF X N22 sc22 := by obtain ⟨_, _, _, _, _, _, rfl⟩ := hX; exact ⟨rfl, rfl⟩
  have hb : X.env.blockKind = .function := by obtain ⟨_, _, _, _, _, _, rfl⟩ := hX; rfl
  have hf : ∀ x, X.fn x = true := by obtain ⟨_, _, _, _, _, _, rfl⟩ := hX; intro _; rfl
  have T : At X P w base := ⟨hP, hw, hb0⟩
  clear hX
  exact
   (ss_cons (ss_if (xw_or (xt_not (xt_tru C (xo_of (xx_callB (call_isU C.K) (cg_isi (isi_ok A)) (F.g (by kernel_rfl)) (C.gm (A.fre 4 rfl)) (by kernel_rfl) (xa_cons (xo_name (pn F 0 (by kernel_rfl))) (xa_cons (xo_gty (F.g (by kernel_rfl)) (C.gm (A.fre 9 rfl)) (by kernel_rfl)) xa_nil)))))) (xw_or1 (xt_not (xt_chain op_leU op_leU og_cmp og_cmp xo_int (xo_of (xx_callB (call_lenU C.K) cg_len (F.g (by kernel_rfl)) (C.gm (A.fre 5 rfl)) (by kernel_rfl) (xa_cons (xo_name (pn F 0 (by kernel_rfl))) xa_nil))) (xo_gint (F.g (by kernel_rfl)) (A.int C 13 rfl)))))).pt
    (ss_one (ss_ret (xx_of xo_bl)))
    ss_nil)
    (ss_one (ss_ret (xx_callB (call_allU C.K cm) cg_all (F.g (by kernel_rfl)) (C.gm (A.fre 2 rfl)) (by kernel_rfl) (xa_cons (xo_of (xx_comp C cm (own := [(("parts" : Str), 1)]) (is := [1]) (xi_any C.K (xd_nm (pn F 0 (by kernel_rfl)))) (F.blk (by kernel_rfl)) (by decide) (fun Y C1 cm1 hY => by
    have F1 := F.subY hY
    have T1 := T.subY hY
    have r1 := roomY r hY
    exact ⟨(sgb C1 F1 1 (by kernel_rfl)), xts_nil, (xc (k0 := 3) C1 T1 r1 F1 O21 b21_1 (A.glo 12 rfl) (by omega) (by kernel_rfl) (fun _ => .nil) (xa_cons (xo_name (pn F1 1 (by kernel_rfl))) xa_nil) (lenA_cons lenA_nil) rfl)⟩))) xa_nil)))))
theorem S6 : FnScope [("self" : Str), "name"] [("self" : Str), "name"] (defScope s6) := ⟨rfl, rfl, rfl, by decide +kernel, rfl, by decide +kernel, by decide +kernel⟩
theorem ok6 (A : All K mg h) : ∃ fd, OkX P w (E K mg) base d6 1 ((E K mg).ca 9) "name" "name" fd := by
  obtain ⟨fd, FD⟩ := A.c.def_ 4 (d := d6) rfl
  exact ⟨fd, exInit_ok (e := E K mg) (k := 0) FD S6 (by kernel_rfl) (by kernel_rfl) (by kernel_rfl) famL (baseB_ok (A.exf 4 rfl)) (A.glo 16 rfl) (oexB_ok (A.exf 2 rfl)) (of_decide_eq_true (A.exf 3 rfl)) (by decide) (by decide) (by decide), FD.bindsN fun _ _ _ _ _ _ us hl => match us, hl with | [_, _], _ => rfl⟩
def N42 : List Str := [("self" : Str), ("name" : Str), ("one" : Str), ("parent" : Str)]
abbrev sc42 : Scope := defScope s42
theorem S42 : FnScope N42 [("self" : Str), ("name" : Str)] sc42 := ⟨rfl, rfl, rfl, by decide +kernel, rfl, by decide +kernel, by decide +kernel⟩
theorem ok42 (A : All K mg h) : ∃ fd, Ok P w (E K mg) base d42 3 [("self" : Str), ("name" : Str)] F42 fd := by
  obtain ⟨fd, FD⟩ := A.c.def_ 21 (d := d42) rfl
  obtain ⟨fd6, O6⟩ := ok6 (P := P) (w := w) (base := base) A
  refine ⟨fd, ⟨fnD_ok (N := N42) (g := g42) (k := 2) FD S42 fun X W C cm hP hw hb0 r hX => ?_, FD⟩⟩
  have F : CF X N42 sc42 := by obtain ⟨_, _, _, _, _, _, rfl⟩ := hX; exact ⟨rfl, rfl⟩
  have hb : X.env.blockKind = .function := by obtain ⟨_, _, _, _, _, _, rfl⟩ := hX; rfl
  have hf : ∀ x, X.fn x = true := by obtain ⟨_, _, _, _, _, _, rfl⟩ := hX; intro _; rfl
  have T : At X P w base := ⟨hP, hw, hb0⟩
  clear hX
  exact
   (ss_cons (ss_for C cm (xi_any C.K (xd_op (xo_attr C (at_folk_11 A) (xo_name (pn F 0 (by kernel_rfl)))))) (sg_tup C.K cm (sg_cons (sgx C F hf 2 (by kernel_rfl)) (sg_cons (sgx C F hf 3 (by kernel_rfl)) sg_nil)))
    (ss_one (ss_if (xw_and (xt_cmp (op_eq2 C.K (roomU r)) og_eq2 (xo_name (pn F 2 (by kernel_rfl))) (xo_name (pn F 1 (by kernel_rfl))) (nomark _)) (xw_and1 (xt_tru C (xo_of (xx_callB (call_isU C.K) (cg_isi (isi_ok A)) (F.g (by kernel_rfl)) (C.gm (A.fre 4 rfl)) (by kernel_rfl) (xa_cons (xo_name (pn F 1 (by kernel_rfl))) (xa_cons (xo_gty (F.g (by kernel_rfl)) (C.gm (A.fre 3 rfl)) (by kernel_rfl)) xa_nil))))))).pt
    (ss_one (ss_ret (xx_mv (pn F 3 (by kernel_rfl)))))
    ss_nil)))
    (ss_one (x1 (k0 := 2) (c := 9) C cm famL T r (A.exf 2 rfl) O6 (A.exf 5 rfl) F (A.glo 17 rfl) (by omega) (by kernel_rfl) (xd_nm (pn F 1 (by kernel_rfl))))))
def N23 : List Str := [("whom" : Str)]
abbrev sc23 : Scope := defScope s23
theorem S23 : FnScope N23 [("whom" : Str)] sc23 := ⟨rfl, rfl, rfl, by decide +kernel, rfl, by decide +kernel, by decide +kernel⟩
theorem ok23 (A : All K mg h) : ∃ fd, Ok P w (E K mg) base d23 5 [("whom" : Str)] F23 fd := by
  obtain ⟨fd, FD⟩ := A.c.def_ 14 (d := d23) rfl
  obtain ⟨fd22, O22⟩ := ok22 (P := P) (w := w) (base := base) A
  have b22_1 : ∃ ds, Vals ([] : List V) ds ∧ Binds (E K mg).K fd22 [("thing" : Str)] ds := ⟨[], .nil, O22.fd.bindsN fun _ _ _ _ _ _ us hl => match us, hl with | [_], _ => rfl⟩
  refine ⟨fd, ⟨fnD_ok (N := N23) (g := g23) (k := 4) FD S23 fun X W C cm hP hw hb0 r hX => ?_, FD⟩⟩
  have F : CF X N23 sc23 := by obtain ⟨_, _, _, _, _, _, rfl⟩ := hX; exact ⟨rfl, rfl⟩
  have hb : X.env.blockKind = .function := by obtain ⟨_, _, _, _, _, _, rfl⟩ := hX; rfl
  have hf : ∀ x, X.fn x = true := by obtain ⟨_, _, _, _, _, _, rfl⟩ := hX; intro _; rfl
  have T : At X P w base := ⟨hP, hw, hb0⟩
  clear hX
  exact
   (ss_one (ss_if (xt_not (xt_tru C (xo_of (xc (k0 := 4) C T r F O22 b22_1 (A.glo 14 rfl) (by omega) (by kernel_rfl) (fun _ => .nil) (xa_cons (xo_name (pn F 0 (by kernel_rfl))) xa_nil) (lenA_cons lenA_nil) rfl))))
    (ss_one (x0 (c := 8) C cm famV (A.exf 6 rfl) F (A.glo 21 rfl) (by kernel_rfl)))
    ss_nil))
def N31 : List Str := [("house" : Str), ("whom" : Str), ("story" : Str), ("wait" : Str), ("name" : Str)]
abbrev sc31 : Scope := defScope s31
theorem S31 : FnScope N31 [("house" : Str), ("whom" : Str), ("story" : Str), ("wait" : Str)] sc31 := ⟨rfl, rfl, rfl, by decide +kernel, rfl, by decide +kernel, by decide +kernel⟩
theorem ok31 (A : All K mg h) : ∃ fd, Ok P w (E K mg) base d31 6 [("house" : Str), ("whom" : Str), ("story" : Str), ("wait" : Str)] F31 fd := by
  obtain ⟨fd, FD⟩ := A.c.def_ 15 (d := d31) rfl
  obtain ⟨fd42, O42⟩ := ok42 (P := P) (w := w) (base := base) A
  have b42_2 : ∃ ds, Vals ([] : List V) ds ∧ Binds (E K mg).K fd42 [("self" : Str), ("name" : Str)] ds := ⟨[], .nil, O42.fd.bindsN fun _ _ _ _ _ _ us hl => match us, hl with | [_, _], _ => rfl⟩
  obtain ⟨fd23, O23⟩ := ok23 (P := P) (w := w) (base := base) A
  have b23_1 : ∃ ds, Vals ([] : List V) ds ∧ Binds (E K mg).K fd23 [("whom" : Str)] ds := ⟨[], .nil, O23.fd.bindsN fun _ _ _ _ _ _ us hl => match us, hl with | [_], _ => rfl⟩
  refine ⟨fd, ⟨fnD_ok (N := N31) (g := g31) (k := 5) FD S31 fun X W C cm hP hw hb0 r hX => ?_, FD⟩⟩
  have F : CF X N31 sc31 := by obtain ⟨_, _, _, _, _, _, rfl⟩ := hX; exact ⟨rfl, rfl⟩
  have hb : X.env.blockKind = .function := by obtain ⟨_, _, _, _, _, _, rfl⟩ := hX; rfl
  have hf : ∀ x, X.fn x = true := by obtain ⟨_, _, _, _, _, _, rfl⟩ := hX; intro _; rfl
  have T : At X P w base := ⟨hP, hw, hb0⟩
  clear hX
  exact
   (ss_cons (ss_expr (xc (k0 := 5) C T r F O23 b23_1 (A.glo 22 rfl) (by omega) (by kernel_rfl) (fun _ => .nil) (xa_cons (xo_name (pn F 1 (by kernel_rfl))) xa_nil) (lenA_cons lenA_nil) rfl))
    (ss_cons (ss_expr xx_bad)
    (ss_cons (ss_for C cm (xi_any C.K (xd_of xx_bad)) (sgx C F hf 4 (by kernel_rfl))
    (ss_one (ss_expr (xme (k0 := 5) (c := 11) C T r O42 b42_2 (He.cls_ok (A.c.fact 18 rfl)) (He.meth_ok (A.c.fact 20 rfl)) (by omega) (fun _ => .nil) (xo_name (pn F 0 (by kernel_rfl))) (xa_cons (xo_name (pn F 4 (by kernel_rfl))) xa_nil) (lenA_cons lenA_nil) rfl))))
    (ss_one (ss_ret xx_bad)))))
def N8 : List Str := [("thing" : Str)]
abbrev sc8 : Scope := defScope s8
theorem S8 : FnScope N8 [("thing" : Str)] sc8 := ⟨rfl, rfl, rfl, by decide +kernel, rfl, by decide +kernel, by decide +kernel⟩
theorem ok8 (A : All K mg h) : ∃ fd, Ok P w (E K mg) base d8 1 [("thing" : Str)] F8 fd := by
  obtain ⟨fd, FD⟩ := A.c.def_ 5 (d := d8) rfl
  refine ⟨fd, ⟨fnD_ok (N := N8) (g := g8) (k := 0) FD S8 fun X W C cm hP hw hb0 r hX => ?_, FD⟩⟩
  have F : CF X N8 sc8 := by obtain ⟨_, _, _, _, _, _, rfl⟩ := hX; exact ⟨rfl, rfl⟩
  have hb : X.env.blockKind = .function := by obtain ⟨_, _, _, _, _, _, rfl⟩ := hX; rfl
  have hf : ∀ x, X.fn x = true := by obtain ⟨_, _, _, _, _, _, rfl⟩ := hX; intro _; rfl
  have T : At X P w base := ⟨hP, hw, hb0⟩
  clear hX
  exact
   (ss_one (ss_ret (xx_of (xo_and C (xo_of (xx_callB (call_isU C.K) (cg_isi (isi_ok A)) (F.g (by kernel_rfl)) (C.gm (A.fre 4 rfl)) (by kernel_rfl) (xa_cons (xo_name (pn F 0 (by kernel_rfl))) (xa_cons (xo_gty (F.g (by kernel_rfl)) (C.gm (A.fre 26 rfl)) (by kernel_rfl)) xa_nil)))) (xo_one (xo_of (xx_not C (xo_of (xx_callB (call_isU C.K) (cg_isi (isi_ok A)) (F.g (by kernel_rfl)) (C.gm (A.fre 4 rfl)) (by kernel_rfl) (xa_cons (xo_name (pn F 0 (by kernel_rfl))) (xa_cons (xo_gty (F.g (by kernel_rfl)) (C.gm (A.fre 27 rfl)) (by kernel_rfl)) xa_nil)))))))))))
def N9 : List Str := [("thing" : Str), ("low" : Str), ("high" : Str)]
abbrev sc9 : Scope := defScope s9
theorem S9 : FnScope N9 [("thing" : Str), ("low" : Str), ("high" : Str)] sc9 := ⟨rfl, rfl, rfl, by decide +kernel, rfl, by decide +kernel, by decide +kernel⟩
theorem ok9 (A : All K mg h) : ∃ fd, Ok P w (E K mg) base d9 2 [("thing" : Str), ("low" : Str), ("high" : Str)] F9 fd := by
  obtain ⟨fd, FD⟩ := A.c.def_ 6 (d := d9) rfl
  obtain ⟨fd8, O8⟩ := ok8 (P := P) (w := w) (base := base) A
  have b8_1 : ∃ ds, Vals ([] : List V) ds ∧ Binds (E K mg).K fd8 [("thing" : Str)] ds := ⟨[], .nil, O8.fd.bindsN fun _ _ _ _ _ _ us hl => match us, hl with | [_], _ => rfl⟩
  refine ⟨fd, ⟨fnD_ok (N := N9) (g := g9) (k := 1) FD S9 fun X W C cm hP hw hb0 r hX => ?_, FD⟩⟩
  have F : CF X N9 sc9 := by obtain ⟨_, _, _, _, _, _, rfl⟩ := hX; exact ⟨rfl, rfl⟩
  have hb : X.env.blockKind = .function := by obtain ⟨_, _, _, _, _, _, rfl⟩ := hX; rfl
  have hf : ∀ x, X.fn x = true := by obtain ⟨_, _, _, _, _, _, rfl⟩ := hX; intro _; rfl
  have T : At X P w base := ⟨hP, hw, hb0⟩
  clear hX
  exact
   (ss_one (ss_ret (xx_of (xo_and C (xo_of (xc (k0 := 1) C T r F O8 b8_1 (A.glo 28 rfl) (by omega) (by kernel_rfl) (fun _ => .nil) (xa_cons (xo_name (pn F 0 (by kernel_rfl))) xa_nil) (lenA_cons lenA_nil) rfl)) (xo_one (xo_of (xx_chain op_leU op_leU og_cmp og_cmp (xo_name (pn F 1 (by kernel_rfl))) (xo_name (pn F 0 (by kernel_rfl))) (xo_name (pn F 2 (by kernel_rfl))))))))))
def N14 : List Str := [("thing" : Str)]
abbrev sc14 : Scope := defScope s14
theorem S14 : FnScope N14 [("thing" : Str)] sc14 := ⟨rfl, rfl, rfl, by decide +kernel, rfl, by decide +kernel, by decide +kernel⟩
theorem ok14 (A : All K mg h) : ∃ fd, Ok P w (E K mg) base d14 3 [("thing" : Str)] F14 fd := by
  obtain ⟨fd, FD⟩ := A.c.def_ 10 (d := d14) rfl
  obtain ⟨fd9, O9⟩ := ok9 (P := P) (w := w) (base := base) A
  have b9_3 : ∃ ds, Vals ([] : List V) ds ∧ Binds (E K mg).K fd9 [("thing" : Str), ("low" : Str), ("high" : Str)] ds := ⟨[], .nil, O9.fd.bindsN fun _ _ _ _ _ _ us hl => match us, hl with | [_, _, _], _ => rfl⟩
  refine ⟨fd, ⟨fnD_ok (N := N14) (g := g14) (k := 2) FD S14 fun X W C cm hP hw hb0 r hX => ?_, FD⟩⟩
  have F : CF X N14 sc14 := by obtain ⟨_, _, _, _, _, _, rfl⟩ := hX; exact ⟨rfl, rfl⟩
  have hb : X.env.blockKind = .function := by obtain ⟨_, _, _, _, _, _, rfl⟩ := hX; rfl
  have hf : ∀ x, X.fn x = true := by obtain ⟨_, _, _, _, _, _, rfl⟩ := hX; intro _; rfl
  have T : At X P w base := ⟨hP, hw, hb0⟩
  clear hX
  exact
   (ss_one (ss_ret (xc (k0 := 2) C T r F O9 b9_3 (A.glo 30 rfl) (by omega) (by kernel_rfl) (fun _ => .nil) (xa_cons (xo_name (pn F 0 (by kernel_rfl))) (xa_cons (xo_of (xx_bin op_subU og_sub xo_int (xo_gint (F.g (by kernel_rfl)) (A.int C 29 rfl)))) (xa_cons (xo_gint (F.g (by kernel_rfl)) (A.int C 29 rfl)) xa_nil))) (lenA_cons (lenA_cons (lenA_cons lenA_nil))) rfl)))
def N49 : List Str := [("thing" : Str)]
abbrev sc49 : Scope := defScope s49
theorem S49 : FnScope N49 [("thing" : Str)] sc49 := ⟨rfl, rfl, rfl, by decide +kernel, rfl, by decide +kernel, by decide +kernel⟩
theorem ok49 (A : All K mg h) : ∃ fd, Ok P w (E K mg) base d49 4 [("thing" : Str)] F49 fd := by
  obtain ⟨fd, FD⟩ := A.c.def_ 22 (d := d49) rfl
  obtain ⟨fd10, O10⟩ := ok10 (P := P) (w := w) (base := base) A
  have b10_1 : ∃ ds, Vals ([] : List V) ds ∧ Binds (E K mg).K fd10 [("thing" : Str)] ds := ⟨[], .nil, O10.fd.bindsN fun _ _ _ _ _ _ us hl => match us, hl with | [_], _ => rfl⟩
  obtain ⟨fd14, O14⟩ := ok14 (P := P) (w := w) (base := base) A
  have b14_1 : ∃ ds, Vals ([] : List V) ds ∧ Binds (E K mg).K fd14 [("thing" : Str)] ds := ⟨[], .nil, O14.fd.bindsN fun _ _ _ _ _ _ us hl => match us, hl with | [_], _ => rfl⟩
  refine ⟨fd, ⟨fnD_ok (N := N49) (g := g49) (k := 3) FD S49 fun X W C cm hP hw hb0 r hX => ?_, FD⟩⟩
  have F : CF X N49 sc49 := by obtain ⟨_, _, _, _, _, _, rfl⟩ := hX; exact ⟨rfl, rfl⟩
  have hb : X.env.blockKind = .function := by obtain ⟨_, _, _, _, _, _, rfl⟩ := hX; rfl
  have hf : ∀ x, X.fn x = true := by obtain ⟨_, _, _, _, _, _, rfl⟩ := hX; intro _; rfl
  have T : At X P w base := ⟨hP, hw, hb0⟩
  clear hX
  exact
   (ss_one (ss_ret (xx_of (xo_and C (xo_of (xx_callB (call_isU C.K) (cg_isi (isi_ok A)) (F.g (by kernel_rfl)) (C.gm (A.fre 4 rfl)) (by kernel_rfl) (xa_cons (xo_name (pn F 0 (by kernel_rfl))) (xa_cons (xo_gty (F.g (by kernel_rfl)) (C.gm (A.fre 9 rfl)) (by kernel_rfl)) xa_nil)))) (xo_and C (xo_of (xx_cmp (op_eq2 C.K (roomU r)) og_eq2 (xo_of (xx_callB (call_lenU C.K) cg_len (F.g (by kernel_rfl)) (C.gm (A.fre 5 rfl)) (by kernel_rfl) (xa_cons (xo_name (pn F 0 (by kernel_rfl))) xa_nil))) xo_int (nomark _))) (xo_and C (xo_of (xc (k0 := 3) C T r F O10 b10_1 (A.glo 8 rfl) (by omega) (by kernel_rfl) (fun _ => .nil) (xa_cons (xo_of (xx_ix C.K (xo_name (pn F 0 (by kernel_rfl))) xo_int (fun _ _ => rfl))) xa_nil) (lenA_cons lenA_nil) rfl)) (xo_one (xo_of (xc (k0 := 3) C T r F O14 b14_1 (A.glo 31 rfl) (by omega) (by kernel_rfl) (fun _ => .nil) (xa_cons (xo_of (xx_ix C.K (xo_name (pn F 0 (by kernel_rfl))) xo_int (fun _ _ => rfl))) xa_nil) (lenA_cons lenA_nil) rfl)))))))))
theorem S4 : FnScope [("self" : Str), "number"] [("self" : Str), "number"] (defScope s4) := ⟨rfl, rfl, rfl, by decide +kernel, rfl, by decide +kernel, by decide +kernel⟩
theorem ok4 (A : All K mg h) : ∃ fd, OkX P w (E K mg) base d4 1 ((E K mg).ca 6) "number" "number" fd := by
  obtain ⟨fd, FD⟩ := A.c.def_ 3 (d := d4) rfl
  exact ⟨fd, exInit_ok (e := E K mg) (k := 0) FD S4 (by kernel_rfl) (by kernel_rfl) (by kernel_rfl) famV (baseB_ok (A.exf 9 rfl)) (A.glo 33 rfl) (oexB_ok (A.exf 7 rfl)) (of_decide_eq_true (A.exf 8 rfl)) (by decide) (by decide) (by decide), FD.bindsN fun _ _ _ _ _ _ us hl => match us, hl with | [_, _], _ => rfl⟩
def N50 : List Str := [("rows" : Str), ("number" : Str), ("row" : Str)]
abbrev sc50 : Scope := defScope s50
theorem S50 : FnScope N50 [("rows" : Str)] sc50 := ⟨rfl, rfl, rfl, by decide +kernel, rfl, by decide +kernel, by decide +kernel⟩
theorem ok50 (A : All K mg h) : ∃ fd, Ok P w (E K mg) base d50 5 [("rows" : Str)] F50 fd := by
  obtain ⟨fd, FD⟩ := A.c.def_ 23 (d := d50) rfl
  obtain ⟨fd49, O49⟩ := ok49 (P := P) (w := w) (base := base) A
  have b49_1 : ∃ ds, Vals ([] : List V) ds ∧ Binds (E K mg).K fd49 [("thing" : Str)] ds := ⟨[], .nil, O49.fd.bindsN fun _ _ _ _ _ _ us hl => match us, hl with | [_], _ => rfl⟩
  obtain ⟨fd4, O4⟩ := ok4 (P := P) (w := w) (base := base) A
  refine ⟨fd, ⟨fnD_ok (N := N50) (g := g50) (k := 4) FD S50 fun X W C cm hP hw hb0 r hX => ?_, FD⟩⟩
  have F : CF X N50 sc50 := by obtain ⟨_, _, _, _, _, _, rfl⟩ := hX; exact ⟨rfl, rfl⟩
  have hb : X.env.blockKind = .function := by obtain ⟨_, _, _, _, _, _, rfl⟩ := hX; rfl
  have hf : ∀ x, X.fn x = true := by obtain ⟨_, _, _, _, _, _, rfl⟩ := hX; intro _; rfl
  have T : At X P w base := ⟨hP, hw, hb0⟩
  clear hX
  exact
   (ss_cons (ss_if (xw_or (xt_not (xt_tru C (xo_of (xx_callB (call_isU C.K) (cg_isi (isi_ok A)) (F.g (by kernel_rfl)) (C.gm (A.fre 4 rfl)) (by kernel_rfl) (xa_cons (xo_name (pn F 0 (by kernel_rfl))) (xa_cons (xo_gty (F.g (by kernel_rfl)) (C.gm (A.fre 9 rfl)) (by kernel_rfl)) xa_nil)))))) (xw_or1 (xt_cmp op_gtU og_cmp (xo_of (xx_callB (call_lenU C.K) cg_len (F.g (by kernel_rfl)) (C.gm (A.fre 5 rfl)) (by kernel_rfl) (xa_cons (xo_name (pn F 0 (by kernel_rfl))) xa_nil))) (xo_gint (F.g (by kernel_rfl)) (A.int C 35 rfl)) (nomark _)))).pt
    (ss_one (x1 (k0 := 4) (c := 6) C cm famV T r (A.exf 7 rfl) O4 (A.exf 10 rfl) F (A.glo 34 rfl) (by omega) (by kernel_rfl) (xd_op xo_non)))
    ss_nil)
    (ss_one (ss_for C cm (xi_enum C (F.g (by kernel_rfl)) (C.gm (A.fre 25 rfl)) (xd_nm (pn F 0 (by kernel_rfl)))) (sg_tup C.K cm (sg_cons (sgx C F hf 1 (by kernel_rfl)) (sg_cons (sgx C F hf 2 (by kernel_rfl)) sg_nil)))
    (ss_one (ss_if (xw_or (xt_not (xt_tru C (xo_of (xc (k0 := 4) C T r F O49 b49_1 (A.glo 32 rfl) (by omega) (by kernel_rfl) (fun _ => .nil) (xa_cons (xo_name (pn F 2 (by kernel_rfl))) xa_nil) (lenA_cons lenA_nil) rfl)))) (xw_or1 (xw_and (xt_cmp op_gtU og_cmp (xo_name (pn F 1 (by kernel_rfl))) xo_int (nomark _)) (xw_and1 (xt_cmp op_geU og_cmp (xo_of (xx_ix C.K (xo_of (xx_ix C.K (xo_name (pn F 0 (by kernel_rfl))) (xo_of (xx_bin op_subU og_sub (xo_name (pn F 1 (by kernel_rfl))) xo_int)) (fun _ _ => rfl))) xo_int (fun _ _ => rfl))) (xo_of (xx_ix C.K (xo_name (pn F 2 (by kernel_rfl))) xo_int (fun _ _ => rfl))) (nomark _)))).pt)).pt
    (ss_one (x1 (k0 := 4) (c := 6) C cm famV T r (A.exf 7 rfl) O4 (A.exf 10 rfl) F (A.glo 34 rfl) (by omega) (by kernel_rfl) (xd_nm (pn F 1 (by kernel_rfl)))))
    ss_nil)))))
def N51 : List Str := [("self" : Str), ("deaths" : Str)]
abbrev sc51 : Scope := defScope s51
theorem S51 : FnScope N51 [("self" : Str), ("deaths" : Str)] sc51 := ⟨rfl, rfl, rfl, by decide +kernel, rfl, by decide +kernel, by decide +kernel⟩
theorem ok51 (A : All K mg h) : ∃ fd, Ok P w (E K mg) base d51 6 [("self" : Str), ("deaths" : Str)] F51 fd := by
  obtain ⟨fd, FD⟩ := A.c.def_ 24 (d := d51) rfl
  obtain ⟨fd50, O50⟩ := ok50 (P := P) (w := w) (base := base) A
  have b50_1 : ∃ ds, Vals ([] : List V) ds ∧ Binds (E K mg).K fd50 [("rows" : Str)] ds := ⟨[], .nil, O50.fd.bindsN fun _ _ _ _ _ _ us hl => match us, hl with | [_], _ => rfl⟩
  refine ⟨fd, ⟨fnD_ok (N := N51) (g := g51) (k := 5) FD S51 fun X W C cm hP hw hb0 r hX => ?_, FD⟩⟩
  have F : CF X N51 sc51 := by obtain ⟨_, _, _, _, _, _, rfl⟩ := hX; exact ⟨rfl, rfl⟩
  have hb : X.env.blockKind = .function := by obtain ⟨_, _, _, _, _, _, rfl⟩ := hX; rfl
  have hf : ∀ x, X.fn x = true := by obtain ⟨_, _, _, _, _, _, rfl⟩ := hX; intro _; rfl
  have T : At X P w base := ⟨hP, hw, hb0⟩
  clear hX
  exact
   (ss_cons (ssx (i := 1) C F hf (by kernel_rfl) (xx_ifE (xt_cmp op_isN og_is (xo_name (pn F 1 (by kernel_rfl))) xo_non (nomark _)) (xx_tup xad_nil) (xx_mv (pn F 1 (by kernel_rfl)))))
    (ss_cons (ss_expr (xc (k0 := 5) C T r F O50 b50_1 (A.glo 36 rfl) (by omega) (by kernel_rfl) (fun _ => .nil) (xa_cons (xo_name (pn F 1 (by kernel_rfl))) xa_nil) (lenA_cons lenA_nil) rfl))
    (ss_one (ss_fld C (He.cls_ok (A.c.fact 23 rfl)) (He.noat_ok (A.c.fact 24 rfl)) (pn F 0 (by kernel_rfl)) (xd_nm (pn F 1 (by kernel_rfl)))))))
def N12 : List Str := [("thing" : Str)]
abbrev sc12 : Scope := defScope s12
theorem S12 : FnScope N12 [("thing" : Str)] sc12 := ⟨rfl, rfl, rfl, by decide +kernel, rfl, by decide +kernel, by decide +kernel⟩
theorem ok12 (A : All K mg h) : ∃ fd, Ok P w (E K mg) base d12 3 [("thing" : Str)] F12 fd := by
  obtain ⟨fd, FD⟩ := A.c.def_ 8 (d := d12) rfl
  obtain ⟨fd9, O9⟩ := ok9 (P := P) (w := w) (base := base) A
  have b9_3 : ∃ ds, Vals ([] : List V) ds ∧ Binds (E K mg).K fd9 [("thing" : Str), ("low" : Str), ("high" : Str)] ds := ⟨[], .nil, O9.fd.bindsN fun _ _ _ _ _ _ us hl => match us, hl with | [_, _, _], _ => rfl⟩
  refine ⟨fd, ⟨fnD_ok (N := N12) (g := g12) (k := 2) FD S12 fun X W C cm hP hw hb0 r hX => ?_, FD⟩⟩
  have F : CF X N12 sc12 := by obtain ⟨_, _, _, _, _, _, rfl⟩ := hX; exact ⟨rfl, rfl⟩
  have hb : X.env.blockKind = .function := by obtain ⟨_, _, _, _, _, _, rfl⟩ := hX; rfl
  have hf : ∀ x, X.fn x = true := by obtain ⟨_, _, _, _, _, _, rfl⟩ := hX; intro _; rfl
  have T : At X P w base := ⟨hP, hw, hb0⟩
  clear hX
  exact
   (ss_one (ss_ret (xc (k0 := 2) C T r F O9 b9_3 (A.glo 30 rfl) (by omega) (by kernel_rfl) (fun _ => .nil) (xa_cons (xo_name (pn F 0 (by kernel_rfl))) (xa_cons xo_int (xa_cons (xo_gint (F.g (by kernel_rfl)) (A.int C 42 rfl)) xa_nil))) (lenA_cons (lenA_cons (lenA_cons lenA_nil))) rfl)))
theorem S1 : FnScope [("self" : Str), "thing"] [("self" : Str), "thing"] (defScope s1) := ⟨rfl, rfl, rfl, by decide +kernel, rfl, by decide +kernel, by decide +kernel⟩
theorem ok1 (A : All K mg h) : ∃ fd, OkX P w (E K mg) base d1 1 ((E K mg).ca 3) "thing" "thing" fd := by
  obtain ⟨fd, FD⟩ := A.c.def_ 0 (d := d1) rfl
  exact ⟨fd, exInit_ok (e := E K mg) (k := 0) FD S1 (by kernel_rfl) (by kernel_rfl) (by kernel_rfl) famV (baseB_ok (A.exf 9 rfl)) (A.glo 33 rfl) (oexB_ok (A.exf 11 rfl)) (of_decide_eq_true (A.exf 12 rfl)) (by decide) (by decide) (by decide), FD.bindsN fun _ _ _ _ _ _ us hl => match us, hl with | [_, _], _ => rfl⟩
def N13 : List Str := [("thing" : Str)]
abbrev sc13 : Scope := defScope s13
theorem S13 : FnScope N13 [("thing" : Str)] sc13 := ⟨rfl, rfl, rfl, by decide +kernel, rfl, by decide +kernel, by decide +kernel⟩
theorem ok13 (A : All K mg h) : ∃ fd, Ok P w (E K mg) base d13 4 [("thing" : Str)] F13 fd := by
  obtain ⟨fd, FD⟩ := A.c.def_ 9 (d := d13) rfl
  obtain ⟨fd12, O12⟩ := ok12 (P := P) (w := w) (base := base) A
  have b12_1 : ∃ ds, Vals ([] : List V) ds ∧ Binds (E K mg).K fd12 [("thing" : Str)] ds := ⟨[], .nil, O12.fd.bindsN fun _ _ _ _ _ _ us hl => match us, hl with | [_], _ => rfl⟩
  obtain ⟨fd1, O1⟩ := ok1 (P := P) (w := w) (base := base) A
  refine ⟨fd, ⟨fnD_ok (N := N13) (g := g13) (k := 3) FD S13 fun X W C cm hP hw hb0 r hX => ?_, FD⟩⟩
  have F : CF X N13 sc13 := by obtain ⟨_, _, _, _, _, _, rfl⟩ := hX; exact ⟨rfl, rfl⟩
  have hb : X.env.blockKind = .function := by obtain ⟨_, _, _, _, _, _, rfl⟩ := hX; rfl
  have hf : ∀ x, X.fn x = true := by obtain ⟨_, _, _, _, _, _, rfl⟩ := hX; intro _; rfl
  have T : At X P w base := ⟨hP, hw, hb0⟩
  clear hX
  exact
   (ss_one (ss_if (xt_not (xt_tru C (xo_of (xc (k0 := 3) C T r F O12 b12_1 (A.glo 43 rfl) (by omega) (by kernel_rfl) (fun _ => .nil) (xa_cons (xo_name (pn F 0 (by kernel_rfl))) xa_nil) (lenA_cons lenA_nil) rfl))))
    (ss_one (x1 (k0 := 3) (c := 3) C cm famV T r (A.exf 11 rfl) O1 (A.exf 13 rfl) F (A.glo 44 rfl) (by omega) (by kernel_rfl) (xd_nm (pn F 0 (by kernel_rfl)))))
    ss_nil))
def N34 : List Str := [("row" : Str), ("ahead" : Str)]
abbrev sc34 : Scope := defScope s34
theorem S34 : FnScope N34 [("row" : Str), ("ahead" : Str)] sc34 := ⟨rfl, rfl, rfl, by decide +kernel, rfl, by decide +kernel, by decide +kernel⟩
theorem ok34 (A : All K mg h) : ∃ fd, Ok P w (E K mg) base d34 4 [("row" : Str), ("ahead" : Str)] F34 fd := by
  obtain ⟨fd, FD⟩ := A.c.def_ 18 (d := d34) rfl
  obtain ⟨fd10, O10⟩ := ok10 (P := P) (w := w) (base := base) A
  have b10_1 : ∃ ds, Vals ([] : List V) ds ∧ Binds (E K mg).K fd10 [("thing" : Str)] ds := ⟨[], .nil, O10.fd.bindsN fun _ _ _ _ _ _ us hl => match us, hl with | [_], _ => rfl⟩
  obtain ⟨fd12, O12⟩ := ok12 (P := P) (w := w) (base := base) A
  have b12_1 : ∃ ds, Vals ([] : List V) ds ∧ Binds (E K mg).K fd12 [("thing" : Str)] ds := ⟨[], .nil, O12.fd.bindsN fun _ _ _ _ _ _ us hl => match us, hl with | [_], _ => rfl⟩
  refine ⟨fd, ⟨fnD_ok (N := N34) (g := g34) (k := 3) FD S34 fun X W C cm hP hw hb0 r hX => ?_, FD⟩⟩
  have F : CF X N34 sc34 := by obtain ⟨_, _, _, _, _, _, rfl⟩ := hX; exact ⟨rfl, rfl⟩
  have hb : X.env.blockKind = .function := by obtain ⟨_, _, _, _, _, _, rfl⟩ := hX; rfl
  have hf : ∀ x, X.fn x = true := by obtain ⟨_, _, _, _, _, _, rfl⟩ := hX; intro _; rfl
  have T : At X P w base := ⟨hP, hw, hb0⟩
  clear hX
  exact
   (ss_cons (ss_if (xw_or (xt_not (xt_tru C (xo_of (xx_callB (call_isU C.K) (cg_isi (isi_ok A)) (F.g (by kernel_rfl)) (C.gm (A.fre 4 rfl)) (by kernel_rfl) (xa_cons (xo_name (pn F 0 (by kernel_rfl))) (xa_cons (xo_gty (F.g (by kernel_rfl)) (C.gm (A.fre 9 rfl)) (by kernel_rfl)) xa_nil)))))) (xw_or (xt_cmp (op_ne2 C.K (roomU r)) og_ne2 (xo_of (xx_callB (call_lenU C.K) cg_len (F.g (by kernel_rfl)) (C.gm (A.fre 5 rfl)) (by kernel_rfl) (xa_cons (xo_name (pn F 0 (by kernel_rfl))) xa_nil))) xo_int (nomark _)) (xw_or (xt_not (xt_tru C (xo_of (xc (k0 := 3) C T r F O10 b10_1 (A.glo 8 rfl) (by omega) (by kernel_rfl) (fun _ => .nil) (xa_cons (xo_of (xx_ix C.K (xo_name (pn F 0 (by kernel_rfl))) xo_int (fun _ _ => rfl))) xa_nil) (lenA_cons lenA_nil) rfl)))) (xw_or1 (xt_cmp (op_inU C.K) og_in (xo_of (xx_ix C.K (xo_name (pn F 0 (by kernel_rfl))) xo_int (fun _ _ => rfl))) (xo_name (pn F 1 (by kernel_rfl))) (by with_unfolding_all rfl)))))).pt
    (ss_one (ss_ret (xx_of xo_bl)))
    ss_nil)
    (ss_one (ss_ret (xx_of (xo_and C (xo_of (xc (k0 := 3) C T r F O10 b10_1 (A.glo 8 rfl) (by omega) (by kernel_rfl) (fun _ => .nil) (xa_cons (xo_of (xx_ix C.K (xo_name (pn F 0 (by kernel_rfl))) xo_int (fun _ _ => rfl))) xa_nil) (lenA_cons lenA_nil) rfl)) (xo_one (xo_of (xc (k0 := 3) C T r F O12 b12_1 (A.glo 43 rfl) (by omega) (by kernel_rfl) (fun _ => .nil) (xa_cons (xo_of (xx_ix C.K (xo_name (pn F 0 (by kernel_rfl))) xo_int (fun _ _ => rfl))) xa_nil) (lenA_cons lenA_nil) rfl))))))))
theorem S3 : FnScope [("self" : Str), "number"] [("self" : Str), "number"] (defScope s3) := ⟨rfl, rfl, rfl, by decide +kernel, rfl, by decide +kernel, by decide +kernel⟩
theorem ok3 (A : All K mg h) : ∃ fd, OkX P w (E K mg) base d3 1 ((E K mg).ca 5) "number" "number" fd := by
  obtain ⟨fd, FD⟩ := A.c.def_ 2 (d := d3) rfl
  exact ⟨fd, exInit_ok (e := E K mg) (k := 0) FD S3 (by kernel_rfl) (by kernel_rfl) (by kernel_rfl) famV (baseB_ok (A.exf 9 rfl)) (A.glo 33 rfl) (oexB_ok (A.exf 14 rfl)) (of_decide_eq_true (A.exf 15 rfl)) (by decide) (by decide) (by decide), FD.bindsN fun _ _ _ _ _ _ us hl => match us, hl with | [_, _], _ => rfl⟩
def N35 : List Str := [("rows" : Str), ("ahead" : Str), ("number" : Str), ("row" : Str)]
abbrev sc35 : Scope := defScope s35
theorem S35 : FnScope N35 [("rows" : Str)] sc35 := ⟨rfl, rfl, rfl, by decide +kernel, rfl, by decide +kernel, by decide +kernel⟩
theorem ok35 (A : All K mg h) : ∃ fd, Ok P w (E K mg) base d35 5 [("rows" : Str)] F35 fd := by
  obtain ⟨fd, FD⟩ := A.c.def_ 19 (d := d35) rfl
  obtain ⟨fd34, O34⟩ := ok34 (P := P) (w := w) (base := base) A
  have b34_2 : ∃ ds, Vals ([] : List V) ds ∧ Binds (E K mg).K fd34 [("row" : Str), ("ahead" : Str)] ds := ⟨[], .nil, O34.fd.bindsN fun _ _ _ _ _ _ us hl => match us, hl with | [_, _], _ => rfl⟩
  obtain ⟨fd3, O3⟩ := ok3 (P := P) (w := w) (base := base) A
  refine ⟨fd, ⟨fnD_ok (N := N35) (g := g35) (k := 4) FD S35 fun X W C cm hP hw hb0 r hX => ?_, FD⟩⟩
  have F : CF X N35 sc35 := by obtain ⟨_, _, _, _, _, _, rfl⟩ := hX; exact ⟨rfl, rfl⟩
  have hb : X.env.blockKind = .function := by obtain ⟨_, _, _, _, _, _, rfl⟩ := hX; rfl
  have hf : ∀ x, X.fn x = true := by obtain ⟨_, _, _, _, _, _, rfl⟩ := hX; intro _; rfl
  have T : At X P w base := ⟨hP, hw, hb0⟩
  clear hX
  exact
   (ss_cons (ss_if (xw_or (xt_not (xt_tru C (xo_of (xx_callB (call_isU C.K) (cg_isi (isi_ok A)) (F.g (by kernel_rfl)) (C.gm (A.fre 4 rfl)) (by kernel_rfl) (xa_cons (xo_name (pn F 0 (by kernel_rfl))) (xa_cons (xo_gty (F.g (by kernel_rfl)) (C.gm (A.fre 9 rfl)) (by kernel_rfl)) xa_nil)))))) (xw_or1 (xt_cmp op_gtU og_cmp (xo_of (xx_callB (call_lenU C.K) cg_len (F.g (by kernel_rfl)) (C.gm (A.fre 5 rfl)) (by kernel_rfl) (xa_cons (xo_name (pn F 0 (by kernel_rfl))) xa_nil))) (xo_gint (F.g (by kernel_rfl)) (A.int C 48 rfl)) (nomark _)))).pt
    (ss_one (x1 (k0 := 4) (c := 5) C cm famV T r (A.exf 14 rfl) O3 (A.exf 16 rfl) F (A.glo 47 rfl) (by omega) (by kernel_rfl) (xd_op xo_non)))
    ss_nil)
    (ss_cons (ssx (i := 1) C F hf (by kernel_rfl) (xx_lst xad_nil))
    (ss_one (ss_for C cm (xi_enum C (F.g (by kernel_rfl)) (C.gm (A.fre 25 rfl)) (xd_nm (pn F 0 (by kernel_rfl)))) (sg_tup C.K cm (sg_cons (sgx C F hf 2 (by kernel_rfl)) (sg_cons (sgx C F hf 3 (by kernel_rfl)) sg_nil)))
    (ss_cons (ss_if (xt_not (xt_tru C (xo_of (xc (k0 := 4) C T r F O34 b34_2 (A.glo 46 rfl) (by omega) (by kernel_rfl) (fun _ => .nil) (xa_cons (xo_name (pn F 3 (by kernel_rfl))) (xa_cons (xo_name (pn F 1 (by kernel_rfl))) xa_nil)) (lenA_cons (lenA_cons lenA_nil)) rfl))))
    (ss_one (x1 (k0 := 4) (c := 5) C cm famV T r (A.exf 14 rfl) O3 (A.exf 16 rfl) F (A.glo 47 rfl) (by omega) (by kernel_rfl) (xd_nm (pn F 2 (by kernel_rfl)))))
    ss_nil)
    (ss_one (ss_expr (xx_mu PySem.F.slot_list_append rfl mt_append mg_append (pn F 1 (by kernel_rfl)) (xad_cons (xd_of (xx_ix C.K (xo_name (pn F 3 (by kernel_rfl))) xo_int (fun _ _ => rfl))) xad_nil)))))))))
def N32 : List Str := [("row" : Str), ("ahead" : Str)]
abbrev sc32 : Scope := defScope s32
theorem S32 : FnScope N32 [("row" : Str), ("ahead" : Str)] sc32 := ⟨rfl, rfl, rfl, by decide +kernel, rfl, by decide +kernel, by decide +kernel⟩
theorem ok32 (A : All K mg h) : ∃ fd, Ok P w (E K mg) base d32 2 [("row" : Str), ("ahead" : Str)] F32 fd := by
  obtain ⟨fd, FD⟩ := A.c.def_ 16 (d := d32) rfl
  obtain ⟨fd10, O10⟩ := ok10 (P := P) (w := w) (base := base) A
  have b10_1 : ∃ ds, Vals ([] : List V) ds ∧ Binds (E K mg).K fd10 [("thing" : Str)] ds := ⟨[], .nil, O10.fd.bindsN fun _ _ _ _ _ _ us hl => match us, hl with | [_], _ => rfl⟩
  refine ⟨fd, ⟨fnD_ok (N := N32) (g := g32) (k := 1) FD S32 fun X W C cm hP hw hb0 r hX => ?_, FD⟩⟩
  have F : CF X N32 sc32 := by obtain ⟨_, _, _, _, _, _, rfl⟩ := hX; exact ⟨rfl, rfl⟩
  have hb : X.env.blockKind = .function := by obtain ⟨_, _, _, _, _, _, rfl⟩ := hX; rfl
  have hf : ∀ x, X.fn x = true := by obtain ⟨_, _, _, _, _, _, rfl⟩ := hX; intro _; rfl
  have T : At X P w base := ⟨hP, hw, hb0⟩
  clear hX
  exact
   (ss_cons (ss_if (xw_or (xt_not (xt_tru C (xo_of (xx_callB (call_isU C.K) (cg_isi (isi_ok A)) (F.g (by kernel_rfl)) (C.gm (A.fre 4 rfl)) (by kernel_rfl) (xa_cons (xo_name (pn F 0 (by kernel_rfl))) (xa_cons (xo_gty (F.g (by kernel_rfl)) (C.gm (A.fre 9 rfl)) (by kernel_rfl)) xa_nil)))))) (xw_or (xt_cmp (op_ne2 C.K (roomU r)) og_ne2 (xo_of (xx_callB (call_lenU C.K) cg_len (F.g (by kernel_rfl)) (C.gm (A.fre 5 rfl)) (by kernel_rfl) (xa_cons (xo_name (pn F 0 (by kernel_rfl))) xa_nil))) xo_int (nomark _)) (xw_or (xt_not (xt_tru C (xo_of (xc (k0 := 1) C T r F O10 b10_1 (A.glo 8 rfl) (by omega) (by kernel_rfl) (fun _ => .nil) (xa_cons (xo_of (xx_ix C.K (xo_name (pn F 0 (by kernel_rfl))) xo_int (fun _ _ => rfl))) xa_nil) (lenA_cons lenA_nil) rfl)))) (xw_or1 (xt_cmp (op_inU C.K) og_in (xo_of (xx_ix C.K (xo_name (pn F 0 (by kernel_rfl))) xo_int (fun _ _ => rfl))) (xo_name (pn F 1 (by kernel_rfl))) (by with_unfolding_all rfl)))))).pt
    (ss_one (ss_ret (xx_of xo_bl)))
    ss_nil)
    (ss_one (ss_ret (xx_of (xo_or C (xo_of (xx_cmp op_isN og_is (xo_of (xx_ix C.K (xo_name (pn F 0 (by kernel_rfl))) xo_int (fun _ _ => rfl))) xo_non (nomark _))) (xo_one (xo_and C (xo_of (xc (k0 := 1) C T r F O10 b10_1 (A.glo 8 rfl) (by omega) (by kernel_rfl) (fun _ => .nil) (xa_cons (xo_of (xx_ix C.K (xo_name (pn F 0 (by kernel_rfl))) xo_int (fun _ _ => rfl))) xa_nil) (lenA_cons lenA_nil) rfl)) (xo_one (xo_of (xx_cmp (op_inU C.K) og_in (xo_of (xx_ix C.K (xo_name (pn F 0 (by kernel_rfl))) xo_int (fun _ _ => rfl))) (xo_name (pn F 1 (by kernel_rfl))) (by with_unfolding_all rfl)))))))))))
theorem S2 : FnScope [("self" : Str), "number"] [("self" : Str), "number"] (defScope s2) := ⟨rfl, rfl, rfl, by decide +kernel, rfl, by decide +kernel, by decide +kernel⟩
theorem ok2 (A : All K mg h) : ∃ fd, OkX P w (E K mg) base d2 1 ((E K mg).ca 4) "number" "number" fd := by
  obtain ⟨fd, FD⟩ := A.c.def_ 1 (d := d2) rfl
  exact ⟨fd, exInit_ok (e := E K mg) (k := 0) FD S2 (by kernel_rfl) (by kernel_rfl) (by kernel_rfl) famV (baseB_ok (A.exf 9 rfl)) (A.glo 33 rfl) (oexB_ok (A.exf 17 rfl)) (of_decide_eq_true (A.exf 18 rfl)) (by decide) (by decide) (by decide), FD.bindsN fun _ _ _ _ _ _ us hl => match us, hl with | [_, _], _ => rfl⟩
def N33 : List Str := [("rows" : Str), ("ahead" : Str), ("number" : Str), ("row" : Str)]
abbrev sc33 : Scope := defScope s33
theorem S33 : FnScope N33 [("rows" : Str)] sc33 := ⟨rfl, rfl, rfl, by decide +kernel, rfl, by decide +kernel, by decide +kernel⟩
theorem ok33 (A : All K mg h) : ∃ fd, Ok P w (E K mg) base d33 3 [("rows" : Str)] F33 fd := by
  obtain ⟨fd, FD⟩ := A.c.def_ 17 (d := d33) rfl
  obtain ⟨fd32, O32⟩ := ok32 (P := P) (w := w) (base := base) A
  have b32_2 : ∃ ds, Vals ([] : List V) ds ∧ Binds (E K mg).K fd32 [("row" : Str), ("ahead" : Str)] ds := ⟨[], .nil, O32.fd.bindsN fun _ _ _ _ _ _ us hl => match us, hl with | [_, _], _ => rfl⟩
  obtain ⟨fd2, O2⟩ := ok2 (P := P) (w := w) (base := base) A
  refine ⟨fd, ⟨fnD_ok (N := N33) (g := g33) (k := 2) FD S33 fun X W C cm hP hw hb0 r hX => ?_, FD⟩⟩
  have F : CF X N33 sc33 := by obtain ⟨_, _, _, _, _, _, rfl⟩ := hX; exact ⟨rfl, rfl⟩
  have hb : X.env.blockKind = .function := by obtain ⟨_, _, _, _, _, _, rfl⟩ := hX; rfl
  have hf : ∀ x, X.fn x = true := by obtain ⟨_, _, _, _, _, _, rfl⟩ := hX; intro _; rfl
  have T : At X P w base := ⟨hP, hw, hb0⟩
  clear hX
  exact
   (ss_cons (ss_if (xw_or (xt_not (xt_tru C (xo_of (xx_callB (call_isU C.K) (cg_isi (isi_ok A)) (F.g (by kernel_rfl)) (C.gm (A.fre 4 rfl)) (by kernel_rfl) (xa_cons (xo_name (pn F 0 (by kernel_rfl))) (xa_cons (xo_gty (F.g (by kernel_rfl)) (C.gm (A.fre 9 rfl)) (by kernel_rfl)) xa_nil)))))) (xw_or1 (xt_not (xt_chain op_leU op_leU og_cmp og_cmp xo_int (xo_of (xx_callB (call_lenU C.K) cg_len (F.g (by kernel_rfl)) (C.gm (A.fre 5 rfl)) (by kernel_rfl) (xa_cons (xo_name (pn F 0 (by kernel_rfl))) xa_nil))) (xo_gint (F.g (by kernel_rfl)) (A.int C 52 rfl)))))).pt
    (ss_one (x1 (k0 := 2) (c := 4) C cm famV T r (A.exf 17 rfl) O2 (A.exf 19 rfl) F (A.glo 51 rfl) (by omega) (by kernel_rfl) (xd_op xo_non)))
    ss_nil)
    (ss_cons (ssx (i := 1) C F hf (by kernel_rfl) (xx_lst xad_nil))
    (ss_one (ss_for C cm (xi_enum C (F.g (by kernel_rfl)) (C.gm (A.fre 25 rfl)) (xd_nm (pn F 0 (by kernel_rfl)))) (sg_tup C.K cm (sg_cons (sgx C F hf 2 (by kernel_rfl)) (sg_cons (sgx C F hf 3 (by kernel_rfl)) sg_nil)))
    (ss_cons (ss_if (xt_not (xt_tru C (xo_of (xc (k0 := 2) C T r F O32 b32_2 (A.glo 50 rfl) (by omega) (by kernel_rfl) (fun _ => .nil) (xa_cons (xo_name (pn F 3 (by kernel_rfl))) (xa_cons (xo_name (pn F 1 (by kernel_rfl))) xa_nil)) (lenA_cons (lenA_cons lenA_nil)) rfl))))
    (ss_one (x1 (k0 := 2) (c := 4) C cm famV T r (A.exf 17 rfl) O2 (A.exf 19 rfl) F (A.glo 51 rfl) (by omega) (by kernel_rfl) (xd_nm (pn F 2 (by kernel_rfl)))))
    ss_nil)
    (ss_one (ss_expr (xx_mu PySem.F.slot_list_append rfl mt_append mg_append (pn F 1 (by kernel_rfl)) (xad_cons (xd_of (xx_ix C.K (xo_name (pn F 3 (by kernel_rfl))) xo_int (fun _ _ => rfl))) xad_nil)))))))))
def N36 : List Str := [("self" : Str), ("people" : Str), ("goods" : Str), ("purse" : Str), ("debts" : Str)]
abbrev sc36 : Scope := defScope s36
theorem S36 : FnScope N36 [("self" : Str), ("people" : Str), ("goods" : Str), ("purse" : Str), ("debts" : Str)] sc36 := ⟨rfl, rfl, rfl, by decide +kernel, rfl, by decide +kernel, by decide +kernel⟩
theorem ok36 (A : All K mg h) : ∃ fd, Ok P w (E K mg) base d36 6 [("self" : Str), ("people" : Str), ("goods" : Str), ("purse" : Str), ("debts" : Str)] F36 fd := by
  obtain ⟨fd, FD⟩ := A.c.def_ 20 (d := d36) rfl
  obtain ⟨fd13, O13⟩ := ok13 (P := P) (w := w) (base := base) A
  have b13_1 : ∃ ds, Vals ([] : List V) ds ∧ Binds (E K mg).K fd13 [("thing" : Str)] ds := ⟨[], .nil, O13.fd.bindsN fun _ _ _ _ _ _ us hl => match us, hl with | [_], _ => rfl⟩
  obtain ⟨fd35, O35⟩ := ok35 (P := P) (w := w) (base := base) A
  have b35_1 : ∃ ds, Vals ([] : List V) ds ∧ Binds (E K mg).K fd35 [("rows" : Str)] ds := ⟨[], .nil, O35.fd.bindsN fun _ _ _ _ _ _ us hl => match us, hl with | [_], _ => rfl⟩
  obtain ⟨fd33, O33⟩ := ok33 (P := P) (w := w) (base := base) A
  have b33_1 : ∃ ds, Vals ([] : List V) ds ∧ Binds (E K mg).K fd33 [("rows" : Str)] ds := ⟨[], .nil, O33.fd.bindsN fun _ _ _ _ _ _ us hl => match us, hl with | [_], _ => rfl⟩
  refine ⟨fd, ⟨fnD_ok (N := N36) (g := g36) (k := 5) FD S36 fun X W C cm hP hw hb0 r hX => ?_, FD⟩⟩
  have F : CF X N36 sc36 := by obtain ⟨_, _, _, _, _, _, rfl⟩ := hX; exact ⟨rfl, rfl⟩
  have hb : X.env.blockKind = .function := by obtain ⟨_, _, _, _, _, _, rfl⟩ := hX; rfl
  have hf : ∀ x, X.fn x = true := by obtain ⟨_, _, _, _, _, _, rfl⟩ := hX; intro _; rfl
  have T : At X P w base := ⟨hP, hw, hb0⟩
  clear hX
  exact
   (ss_cons (ss_expr (xc (k0 := 5) C T r F O33 b33_1 (A.glo 53 rfl) (by omega) (by kernel_rfl) (fun _ => .nil) (xa_cons (xo_name (pn F 1 (by kernel_rfl))) xa_nil) (lenA_cons lenA_nil) rfl))
    (ss_cons (ssx (i := 2) C F hf (by kernel_rfl) (xx_ifE (xt_cmp op_isN og_is (xo_name (pn F 2 (by kernel_rfl))) xo_non (nomark _)) (xx_tup xad_nil) (xx_mv (pn F 2 (by kernel_rfl)))))
    (ss_cons (ss_expr (xc (k0 := 5) C T r F O35 b35_1 (A.glo 49 rfl) (by omega) (by kernel_rfl) (fun _ => .nil) (xa_cons (xo_name (pn F 2 (by kernel_rfl))) xa_nil) (lenA_cons lenA_nil) rfl))
    (ss_cons (ss_expr (xc (k0 := 5) C T r F O13 b13_1 (A.glo 45 rfl) (by omega) (by kernel_rfl) (fun _ => .nil) (xa_cons (xo_name (pn F 3 (by kernel_rfl))) xa_nil) (lenA_cons lenA_nil) rfl))
    (ss_cons (ss_expr (xc (k0 := 5) C T r F O13 b13_1 (A.glo 45 rfl) (by omega) (by kernel_rfl) (fun _ => .nil) (xa_cons (xo_name (pn F 4 (by kernel_rfl))) xa_nil) (lenA_cons lenA_nil) rfl))
    (ss_cons (ss_fld C (He.cls_ok (A.c.fact 18 rfl)) (He.noat_ok (A.c.fact 19 rfl)) (pn F 0 (by kernel_rfl)) (xd_nm (pn F 1 (by kernel_rfl))))
    (ss_cons (ss_fld C (He.cls_ok (A.c.fact 18 rfl)) (He.noat_ok (A.c.fact 41 rfl)) (pn F 0 (by kernel_rfl)) (xd_nm (pn F 2 (by kernel_rfl))))
    (ss_cons (ss_fld C (He.cls_ok (A.c.fact 18 rfl)) (He.noat_ok (A.c.fact 40 rfl)) (pn F 0 (by kernel_rfl)) (xd_nm (pn F 3 (by kernel_rfl))))
    (ss_one (ss_fld C (He.cls_ok (A.c.fact 18 rfl)) (He.noat_ok (A.c.fact 39 rfl)) (pn F 0 (by kernel_rfl)) (xd_nm (pn F 4 (by kernel_rfl)))))))))))))
def N66 : List Str := [("_law_thing" : Str), ("e" : Str)]
abbrev sc66 : Scope := defScope s66
theorem S66 : FnScope N66 [("_law_thing" : Str)] sc66 := ⟨rfl, rfl, rfl, by decide +kernel, rfl, by decide +kernel, by decide +kernel⟩
theorem ok66 (A : All K mg h) : ∃ fd, Ok P w (E K mg) base d66 8 [("_law_thing" : Str)] F66 fd := by
  obtain ⟨fd, FD⟩ := A.c.def_ 33 (d := d66) rfl
  obtain ⟨fd31, O31⟩ := ok31 (P := P) (w := w) (base := base) A
  have b31_3 : ∃ ds, Vals ([.int 0] : List V) ds ∧ Binds (E K mg).K fd31 [("house" : Str), ("whom" : Str), ("story" : Str), ("wait" : Str)] ds := O31.fd.binds1 3 0 (by simp [He.DefD.dvs, d31]) rfl fun _ _ _ _ _ _ _ us its hl h2 => match us, its, hl, h2 with | [_, _, _], [_], _, _ => ⟨_, rfl, rfl⟩
  obtain ⟨fd51, O51⟩ := ok51 (P := P) (w := w) (base := base) A
  have b51_2 : ∃ ds, Vals ([] : List V) ds ∧ Binds (E K mg).K fd51 [("self" : Str), ("deaths" : Str)] ds := O51.fd.binds1 2 1 (by simp [He.DefD.dvs, d51]) rfl fun _ _ _ _ _ _ _ us its hl h2 => match us, its, hl, h2 with | [_, _], [_], _, _ => ⟨_, rfl, rfl⟩
  obtain ⟨fd36, O36⟩ := ok36 (P := P) (w := w) (base := base) A
  have b36_2 : ∃ ds, Vals ([.non, .int 0, .int 0] : List V) ds ∧ Binds (E K mg).K fd36 [("self" : Str), ("people" : Str), ("goods" : Str), ("purse" : Str), ("debts" : Str)] ds := O36.fd.binds1 2 0 (by simp [He.DefD.dvs, d36]) rfl fun _ _ _ _ _ _ _ us its hl h2 => match us, its, hl, h2 with | [_, _], [_, _, _], _, _ => ⟨_, rfl, rfl⟩
  refine ⟨fd, ⟨fnD_ok (N := N66) (g := g66) (k := 7) FD S66 fun X W C cm hP hw hb0 r hX => ?_, FD⟩⟩
  have F : CF X N66 sc66 := by obtain ⟨_, _, _, _, _, _, rfl⟩ := hX; exact ⟨rfl, rfl⟩
  have hb : X.env.blockKind = .function := by obtain ⟨_, _, _, _, _, _, rfl⟩ := hX; rfl
  have hf : ∀ x, X.fn x = true := by obtain ⟨_, _, _, _, _, _, rfl⟩ := hX; intro _; rfl
  have hs : X.stack = X.env :: X.outer := by obtain ⟨_, _, _, _, _, _, rfl⟩ := hX; rfl
  have hfr : X.env.frame = some X.env.locals := by obtain ⟨_, _, _, _, _, _, rfl⟩ := hX; rfl
  have hx : X.ex = [] := by obtain ⟨_, _, _, _, _, _, rfl⟩ := hX; rfl
  have T : At X P w base := ⟨hP, hw, hb0⟩
  clear hX
  exact
   (ss_cons (ss_try C hs hfr hx (fun W1 pn1 xe1 C1 => by
    have F1 := F.tr pn1 xe1
    have T1 := T.tr pn1 xe1
    have r1 := room_tr r pn1 xe1
    have cm1 := calm_tr cm pn1 xe1
    have hf := hf_tr hf pn1 xe1
    exact (ss_one (ss_expr (xc (k0 := 7) C1 T1 r1 F1 O31 b31_3 (A.glo 56 rfl) (by omega) (by kernel_rfl) (fun _ => (.cons (.int _) .nil)) (xa_cons (xo_of (xm (k0 := 7) (c := 11) C1 T1 r1 F1 O36 b36_2 (He.mkr_ok (A.c.fact 54 rfl)) (A.glo 55 rfl) (by omega) (by kernel_rfl) (fun _ => (.cons .non (.cons (.int _) (.cons (.int _) .nil)))) (xa_cons (xo_of (xx_tup (xad_cons (xd_of (xx_tup (xad_cons (xd_op xo_str) (xad_cons (xd_op xo_non) xad_nil)))) xad_nil))) xa_nil) (lenA_cons lenA_nil) rfl)) (xa_cons (xo_name (pn F1 0 (by kernel_rfl))) (xa_cons (xo_of (xm (k0 := 7) (c := 12) C1 T1 r1 F1 O51 b51_2 (He.mkr_ok (A.c.fact 37 rfl)) (A.glo 38 rfl) (by omega) (by kernel_rfl) (fun _ => .nil) (xa_cons (xo_of (xx_tup xad_nil)) xa_nil) (lenA_cons lenA_nil) rfl)) xa_nil))) (lenA_cons (lenA_cons (lenA_cons lenA_nil))) rfl)))) (.cons ⟨(names_ok F (C.gm (A.glo 33 rfl)) (by kernel_rfl)), (exm_ok A (k := 10) (by decide)), F.ix rfl, (F.kd (by kernel_rfl)), ⟨_, _, rfl⟩, fun a1 pn1 => by
    have C2 := C.suite a1 pn1
    have F2 := F.suite a1 pn1
    have hf := hf_su hf a1 pn1
    exact (ss_one (ss_ret (xx_callB (call_isU C2.K) (cg_isi (isi_ok A)) (F2.g (by kernel_rfl)) (C2.gm (A.fre 4 rfl)) (by kernel_rfl) (xa_cons (xo_name (pn F2 1 (by kernel_rfl))) (xa_cons (xo_gref (F2.g (by kernel_rfl)) (C2.gm (A.glo 21 rfl)) (fun _ => .cls 8)) xa_nil)))))⟩ .nil))
    (ss_one (ss_ret (xx_of xo_bl))))
def N62 : List Str := [("_law_thing" : Str), ("_law_odd_here" : Str), ("_law_sign" : Str)]
abbrev sc62 : Scope := defScope s62
theorem S62 : FnScope N62 [("_law_thing" : Str)] sc62 := ⟨rfl, rfl, rfl, by decide +kernel, rfl, by decide +kernel, by decide +kernel⟩
theorem ok62 (A : All K mg h) : ∃ fd, Ok P w (E K mg) base d62 1 [("_law_thing" : Str)] F62 fd := by
  obtain ⟨fd, FD⟩ := A.c.def_ 29 (d := d62) rfl
  refine ⟨fd, ⟨fnD_ok (N := N62) (g := g62) (k := 0) FD S62 fun X W C cm hP hw hb0 r hX => ?_, FD⟩⟩
  have F : CF X N62 sc62 := by obtain ⟨_, _, _, _, _, _, rfl⟩ := hX; exact ⟨rfl, rfl⟩
  have hb : X.env.blockKind = .function := by obtain ⟨_, _, _, _, _, _, rfl⟩ := hX; rfl
  have hf : ∀ x, X.fn x = true := by obtain ⟨_, _, _, _, _, _, rfl⟩ := hX; intro _; rfl
  have T : At X P w base := ⟨hP, hw, hb0⟩
  clear hX
  exact
   (ss_cons (ssx (i := 1) C F hf (by kernel_rfl) (xx_lst (xad_cons (xd_op xo_str) (xad_cons (xd_op xo_str) (xad_cons (xd_op xo_str) (xad_cons (xd_op xo_str) (xad_cons (xd_op xo_str) (xad_cons (xd_op xo_str) (xad_cons (xd_op xo_str) (xad_cons (xd_op xo_str) (xad_cons (xd_op xo_str) (xad_cons (xd_op xo_str) (xad_cons (xd_op xo_str) (xad_cons (xd_op xo_str) (xad_cons (xd_op xo_str) xad_nil)))))))))))))))
    (ss_cons (ss_if (xw_or (xt_not (xt_tru C (xo_of (xx_callB (call_isU C.K) (cg_isi (isi_ok A)) (F.g (by kernel_rfl)) (C.gm (A.fre 4 rfl)) (by kernel_rfl) (xa_cons (xo_name (pn F 0 (by kernel_rfl))) (xa_cons (xo_gty (F.g (by kernel_rfl)) (C.gm (A.fre 3 rfl)) (by kernel_rfl)) xa_nil)))))) (xw_or (xt_cmp op_ltU og_cmp (xo_of (xx_callB (call_lenU C.K) cg_len (F.g (by kernel_rfl)) (C.gm (A.fre 5 rfl)) (by kernel_rfl) (xa_cons (xo_name (pn F 0 (by kernel_rfl))) xa_nil))) xo_int (nomark _)) (xw_or (xt_cmp op_gtU og_cmp (xo_of (xx_callB (call_lenU C.K) cg_len (F.g (by kernel_rfl)) (C.gm (A.fre 5 rfl)) (by kernel_rfl) (xa_cons (xo_name (pn F 0 (by kernel_rfl))) xa_nil))) xo_int (nomark _)) (xw_or1 (xt_cmp (op_inU C.K) og_in (xo_name (pn F 0 (by kernel_rfl))) (xo_name (pn F 1 (by kernel_rfl))) (by with_unfolding_all rfl)))))).pt
    (ss_one (ss_ret (xx_of xo_bl)))
    ss_nil)
    (ss_one (ss_ret (xx_callB (call_allU C.K cm) cg_all (F.g (by kernel_rfl)) (C.gm (A.fre 2 rfl)) (by kernel_rfl) (xa_cons (xo_of (xx_comp C cm (own := [(("_law_sign" : Str), 2)]) (is := [2]) (xi_any C.K (xd_nm (pn F 0 (by kernel_rfl)))) (F.blk (by kernel_rfl)) (by decide) (fun Y C1 cm1 hY => by
    have F1 := F.subY hY
    have T1 := T.subY hY
    have r1 := roomY r hY
    exact ⟨(sgb C1 F1 2 (by kernel_rfl)), xts_nil, (xx_cmp (op_inU C1.K) og_in (xo_name (pn F1 2 (by kernel_rfl))) xo_str (by with_unfolding_all rfl))⟩))) xa_nil))))))
def N63 : List Str := [("_law_thing" : Str), ("_law_parts" : Str), ("_law_part" : Str)]
abbrev sc63 : Scope := defScope s63
theorem S63 : FnScope N63 [("_law_thing" : Str)] sc63 := ⟨rfl, rfl, rfl, by decide +kernel, rfl, by decide +kernel, by decide +kernel⟩
theorem ok63 (A : All K mg h) : ∃ fd, Ok P w (E K mg) base d63 2 [("_law_thing" : Str)] F63 fd := by
  obtain ⟨fd, FD⟩ := A.c.def_ 30 (d := d63) rfl
  obtain ⟨fd62, O62⟩ := ok62 (P := P) (w := w) (base := base) A
  have b62_1 : ∃ ds, Vals ([] : List V) ds ∧ Binds (E K mg).K fd62 [("_law_thing" : Str)] ds := ⟨[], .nil, O62.fd.bindsN fun _ _ _ _ _ _ us hl => match us, hl with | [_], _ => rfl⟩
  refine ⟨fd, ⟨fnD_ok (N := N63) (g := g63) (k := 1) FD S63 fun X W C cm hP hw hb0 r hX => ?_, FD⟩⟩
  have F : CF X N63 sc63 := by obtain ⟨_, _, _, _, _, _, rfl⟩ := hX; exact ⟨rfl, rfl⟩
  have hb : X.env.blockKind = .function := by obtain ⟨_, _, _, _, _, _, rfl⟩ := hX; rfl
  have hf : ∀ x, X.fn x = true := by obtain ⟨_, _, _, _, _, _, rfl⟩ := hX; intro _; rfl
  have T : At X P w base := ⟨hP, hw, hb0⟩
  clear hX
  exact
   (ss_cons (ss_if (xw_or (xt_not (xt_tru C (xo_of (xx_callB (call_isU C.K) (cg_isi (isi_ok A)) (F.g (by kernel_rfl)) (C.gm (A.fre 4 rfl)) (by kernel_rfl) (xa_cons (xo_name (pn F 0 (by kernel_rfl))) (xa_cons (xo_gty (F.g (by kernel_rfl)) (C.gm (A.fre 9 rfl)) (by kernel_rfl)) xa_nil)))))) (xw_or1 (xt_cmp (op_notInU C.K) og_in (xo_of (xx_callB (call_lenU C.K) cg_len (F.g (by kernel_rfl)) (C.gm (A.fre 5 rfl)) (by kernel_rfl) (xa_cons (xo_name (pn F 0 (by kernel_rfl))) xa_nil))) (xo_of (xx_lst (xad_cons (xd_op xo_int) (xad_cons (xd_op xo_int) (xad_cons (xd_op xo_int) (xad_cons (xd_op xo_int) xad_nil)))))) (by with_unfolding_all rfl)))).pt
    (ss_one (ss_ret (xx_of xo_bl)))
    ss_nil)
    (ss_cons (ss_for C cm (xi_any C.K (xd_nm (pn F 0 (by kernel_rfl)))) (sgx C F hf 1 (by kernel_rfl))
    (ss_cons (ss_if (xw_or (xt_not (xt_tru C (xo_of (xx_callB (call_isU C.K) (cg_isi (isi_ok A)) (F.g (by kernel_rfl)) (C.gm (A.fre 4 rfl)) (by kernel_rfl) (xa_cons (xo_name (pn F 1 (by kernel_rfl))) (xa_cons (xo_gty (F.g (by kernel_rfl)) (C.gm (A.fre 9 rfl)) (by kernel_rfl)) xa_nil)))))) (xw_or1 (xt_cmp (op_notInU C.K) og_in (xo_of (xx_callB (call_lenU C.K) cg_len (F.g (by kernel_rfl)) (C.gm (A.fre 5 rfl)) (by kernel_rfl) (xa_cons (xo_name (pn F 1 (by kernel_rfl))) xa_nil))) (xo_of (xx_lst (xad_cons (xd_op xo_int) (xad_cons (xd_op xo_int) (xad_cons (xd_op xo_int) (xad_cons (xd_op xo_int) (xad_cons (xd_op xo_int) (xad_cons (xd_op xo_int) xad_nil)))))))) (by with_unfolding_all rfl)))).pt
    (ss_one (ss_ret (xx_of xo_bl)))
    ss_nil)
    (ss_one (ss_for C cm (xi_any C.K (xd_nm (pn F 1 (by kernel_rfl)))) (sgx C F hf 2 (by kernel_rfl))
    (ss_cons (ss_if (xw_or (xt_not (xt_tru C (xo_of (xx_callB (call_isU C.K) (cg_isi (isi_ok A)) (F.g (by kernel_rfl)) (C.gm (A.fre 4 rfl)) (by kernel_rfl) (xa_cons (xo_name (pn F 2 (by kernel_rfl))) (xa_cons (xo_gty (F.g (by kernel_rfl)) (C.gm (A.fre 9 rfl)) (by kernel_rfl)) xa_nil)))))) (xw_or (xt_cmp (op_ne2 C.K (roomU r)) og_ne2 (xo_of (xx_callB (call_lenU C.K) cg_len (F.g (by kernel_rfl)) (C.gm (A.fre 5 rfl)) (by kernel_rfl) (xa_cons (xo_name (pn F 2 (by kernel_rfl))) xa_nil))) xo_int (nomark _)) (xw_or1 (xt_not (xt_tru C (xo_of (xx_callB (call_isU C.K) (cg_isi (isi_ok A)) (F.g (by kernel_rfl)) (C.gm (A.fre 4 rfl)) (by kernel_rfl) (xa_cons (xo_of (xx_ix C.K (xo_name (pn F 2 (by kernel_rfl))) xo_int (fun _ _ => rfl))) (xa_cons (xo_gty (F.g (by kernel_rfl)) (C.gm (A.fre 3 rfl)) (by kernel_rfl)) xa_nil))))))))).pt
    (ss_one (ss_ret (xx_of xo_bl)))
    ss_nil)
    (ss_one (ss_if (xw_or (xt_cmp (op_notInU C.K) og_in (xo_of (xx_ix C.K (xo_name (pn F 2 (by kernel_rfl))) xo_int (fun _ _ => rfl))) (xo_of (xx_lst (xad_cons (xd_op xo_str) (xad_cons (xd_op xo_str) (xad_cons (xd_op xo_str) xad_nil))))) (by with_unfolding_all rfl)) (xw_or1 (xt_not (xt_tru C (xo_of (xc (k0 := 1) C T r F O62 b62_1 (A.glo 58 rfl) (by omega) (by kernel_rfl) (fun _ => .nil) (xa_cons (xo_of (xx_ix C.K (xo_name (pn F 2 (by kernel_rfl))) xo_int (fun _ _ => rfl))) xa_nil) (lenA_cons lenA_nil) rfl)))))).pt
    (ss_one (ss_ret (xx_of xo_bl)))
    ss_nil)))))))
    (ss_one (ss_ret (xx_of xo_bl)))))
def N67 : List Str := [("_law_thing" : Str), ("_law_shown" : Str), ("_law_found" : Str)]
abbrev sc67 : Scope := defScope s67
theorem S67 : FnScope N67 [("_law_thing" : Str)] sc67 := ⟨rfl, rfl, rfl, by decide +kernel, rfl, by decide +kernel, by decide +kernel⟩
theorem ok67 (A : All K mg h) : ∃ fd, OkG P w (E K mg) base d67 9 [("_law_thing" : Str)] F67 fd := by
  obtain ⟨fd, FD⟩ := A.c.def_ 34 (d := d67) rfl
  obtain ⟨fd22, O22⟩ := ok22 (P := P) (w := w) (base := base) A
  have b22_1 : ∃ ds, Vals ([] : List V) ds ∧ Binds (E K mg).K fd22 [("thing" : Str)] ds := ⟨[], .nil, O22.fd.bindsN fun _ _ _ _ _ _ us hl => match us, hl with | [_], _ => rfl⟩
  obtain ⟨fd66, O66⟩ := ok66 (P := P) (w := w) (base := base) A
  have b66_1 : ∃ ds, Vals ([] : List V) ds ∧ Binds (E K mg).K fd66 [("_law_thing" : Str)] ds := ⟨[], .nil, O66.fd.bindsN fun _ _ _ _ _ _ us hl => match us, hl with | [_], _ => rfl⟩
  obtain ⟨fd63, O63⟩ := ok63 (P := P) (w := w) (base := base) A
  have b63_1 : ∃ ds, Vals ([] : List V) ds ∧ Binds (E K mg).K fd63 [("_law_thing" : Str)] ds := ⟨[], .nil, O63.fd.bindsN fun _ _ _ _ _ _ us hl => match us, hl with | [_], _ => rfl⟩
  refine ⟨fd, ⟨fnG_ok (N := N67) (g := g67) (k := 8) FD S67 fun X W C cm hP hw hb0 gd r hX => ?_, FD⟩⟩
  have F : CF X N67 sc67 := by obtain ⟨_, _, _, _, _, _, rfl⟩ := hX; exact ⟨rfl, rfl⟩
  have hb : X.env.blockKind = .function := by obtain ⟨_, _, _, _, _, _, rfl⟩ := hX; rfl
  have hf : ∀ x, X.fn x = true := by obtain ⟨_, _, _, _, _, _, rfl⟩ := hX; intro _; rfl
  have T : At X P w base := ⟨hP, hw, hb0⟩
  clear hX
  exact
   (ss_cons (ssx (i := 1) C F hf (by kernel_rfl) (xx_repr gd C r F (A.fre 15 rfl) (by kernel_rfl) (xa_cons (xo_name (pn F 0 (by kernel_rfl))) xa_nil)))
    (ss_cons (ssx (i := 2) C F hf (by kernel_rfl) (xc (k0 := 8) C T r F O22 b22_1 (A.glo 14 rfl) (by omega) (by kernel_rfl) (fun _ => .nil) (xa_cons (xo_name (pn F 0 (by kernel_rfl))) xa_nil) (lenA_cons lenA_nil) rfl))
    (ss_cons (ss_if (xw_or (xt_not (xt_tru C (xo_of (xx_callB (call_isU C.K) (cg_isi (isi_ok A)) (F.g (by kernel_rfl)) (C.gm (A.fre 4 rfl)) (by kernel_rfl) (xa_cons (xo_name (pn F 2 (by kernel_rfl))) (xa_cons (xo_gty (F.g (by kernel_rfl)) (C.gm (A.fre 27 rfl)) (by kernel_rfl)) xa_nil)))))) (xw_or1 (xt_cmp (op_ne2 C.K (roomU r)) og_ne2 (xo_name (pn F 2 (by kernel_rfl))) (xo_of (xc (k0 := 8) C T r F O63 b63_1 (A.glo 59 rfl) (by omega) (by kernel_rfl) (fun _ => .nil) (xa_cons (xo_name (pn F 0 (by kernel_rfl))) xa_nil) (lenA_cons lenA_nil) rfl)) (nomark _)))).pt
    (ss_one (ss_ret (xx_of xo_bl)))
    ss_nil)
    (ss_cons (ss_if (xw_and (xt_not (xt_tru C (xo_name (pn F 2 (by kernel_rfl))))) (xw_and1 (xt_not (xt_tru C (xo_of (xc (k0 := 8) C T r F O66 b66_1 (A.glo 57 rfl) (by omega) (by kernel_rfl) (fun _ => .nil) (xa_cons (xo_name (pn F 0 (by kernel_rfl))) xa_nil) (lenA_cons lenA_nil) rfl)))))).pt
    (ss_one (ss_ret (xx_of xo_bl)))
    ss_nil)
    (ss_one (ss_ret (xx_of (xo_and C (xo_of (xx_cmp (op_eq2 C.K (roomU r)) og_eq2 (xo_of (xc (k0 := 8) C T r F O22 b22_1 (A.glo 14 rfl) (by omega) (by kernel_rfl) (fun _ => .nil) (xa_cons (xo_name (pn F 0 (by kernel_rfl))) xa_nil) (lenA_cons lenA_nil) rfl)) (xo_name (pn F 2 (by kernel_rfl))) (nomark _))) (xo_one (xo_of (xx_cmp (op_eq2 C.K (roomU r)) og_eq2 (xo_of (xx_repr gd C r F (A.fre 15 rfl) (by kernel_rfl) (xa_cons (xo_name (pn F 0 (by kernel_rfl))) xa_nil))) (xo_name (pn F 1 (by kernel_rfl))) (nomark _))))))))))))
def N59 : List Str := [("_law_pool_here" : Str), ("_law_many" : Str), ("_law_digit" : Str)]
abbrev sc59 : Scope := defScope s59
theorem S59 : FnScope N59 [("_law_pool_here" : Str), ("_law_many" : Str)] sc59 := ⟨rfl, rfl, rfl, by decide +kernel, rfl, by decide +kernel, by decide +kernel⟩
theorem ok59 (A : All K mg h) : ∃ fd, Ok P w (E K mg) base d59 1 [("_law_pool_here" : Str), ("_law_many" : Str)] F59 fd := by
  obtain ⟨fd, FD⟩ := A.c.def_ 26 (d := d59) rfl
  refine ⟨fd, ⟨fnD_ok (N := N59) (g := g59) (k := 0) FD S59 fun X W C cm hP hw hb0 r hX => ?_, FD⟩⟩
  have F : CF X N59 sc59 := by obtain ⟨_, _, _, _, _, _, rfl⟩ := hX; exact ⟨rfl, rfl⟩
  have hb : X.env.blockKind = .function := by obtain ⟨_, _, _, _, _, _, rfl⟩ := hX; rfl
  have hf : ∀ x, X.fn x = true := by obtain ⟨_, _, _, _, _, _, rfl⟩ := hX; intro _; rfl
  have T : At X P w base := ⟨hP, hw, hb0⟩
  clear hX
  exact
   (ss_cons (ss_asgT (xx_callB call_divmodW cg_divmodW (F.g (by kernel_rfl)) (C.gm (A.fre 65 rfl)) (by kernel_rfl) (xa_cons (xo_of (xx_ix C.K (xo_name (pn F 0 (by kernel_rfl))) xo_int (fun _ _ => rfl))) (xa_cons (xo_name (pn F 1 (by kernel_rfl))) xa_nil))) (sg_tup C.K cm (sg_cons (sg_sub (W := W) (pn F 0 (by kernel_rfl)) xo_int) (sg_cons (sgx C F hf 2 (by kernel_rfl)) sg_nil))))
    (ss_one (ss_ret (xx_mv (pn F 2 (by kernel_rfl))))))
def N64 : List Str := [("_law_pool_here" : Str), ("_law_thing" : Str), ("_law_some" : Str)]
abbrev sc64 : Scope := defScope s64
theorem S64 : FnScope N64 [("_law_pool_here" : Str), ("_law_thing" : Str)] sc64 := ⟨rfl, rfl, rfl, by decide +kernel, rfl, by decide +kernel, by decide +kernel⟩
theorem ok64 (A : All K mg h) : ∃ fd, Ok P w (E K mg) base d64 2 [("_law_pool_here" : Str), ("_law_thing" : Str)] F64 fd := by
  obtain ⟨fd, FD⟩ := A.c.def_ 31 (d := d64) rfl
  obtain ⟨fd59, O59⟩ := ok59 (P := P) (w := w) (base := base) A
  have b59_2 : ∃ ds, Vals ([] : List V) ds ∧ Binds (E K mg).K fd59 [("_law_pool_here" : Str), ("_law_many" : Str)] ds := ⟨[], .nil, O59.fd.bindsN fun _ _ _ _ _ _ us hl => match us, hl with | [_, _], _ => rfl⟩
  refine ⟨fd, ⟨fnD_ok (N := N64) (g := g64) (k := 1) FD S64 fun X W C cm hP hw hb0 r hX => ?_, FD⟩⟩
  have F : CF X N64 sc64 := by obtain ⟨_, _, _, _, _, _, rfl⟩ := hX; exact ⟨rfl, rfl⟩
  have hb : X.env.blockKind = .function := by obtain ⟨_, _, _, _, _, _, rfl⟩ := hX; rfl
  have hf : ∀ x, X.fn x = true := by obtain ⟨_, _, _, _, _, _, rfl⟩ := hX; intro _; rfl
  have T : At X P w base := ⟨hP, hw, hb0⟩
  clear hX
  exact
   (ss_cons (ss_if (xt_tru C (xo_of (xx_callB (call_isU C.K) (cg_isi (isi_ok A)) (F.g (by kernel_rfl)) (C.gm (A.fre 4 rfl)) (by kernel_rfl) (xa_cons (xo_name (pn F 1 (by kernel_rfl))) (xa_cons (xo_gty (F.g (by kernel_rfl)) (C.gm (A.fre 3 rfl)) (by kernel_rfl)) xa_nil)))))
    (ss_cons (ssx (i := 2) C F hf (by kernel_rfl) (xx_lst (xad_cons (xd_of (xx_mt0 C.K PySem.F.plainAttrs_str PySem.F.slot_str_upper rfl mt_upper mg_upper (xo_name (pn F 1 (by kernel_rfl))))) (xad_cons (xd_of (xx_bin (op_addU C.K) og_add (xo_name (pn F 1 (by kernel_rfl))) xo_str)) (xad_cons (xd_op xo_str) (xad_cons (xd_of (xx_bin (op_addU C.K) og_add (xo_name (pn F 1 (by kernel_rfl))) xo_str)) (xad_cons (xd_of (xx_bin (op_addU C.K) og_add (xo_name (pn F 1 (by kernel_rfl))) xo_str)) (xad_cons (xd_op xo_str) (xad_cons (xd_op xo_str) (xad_cons (xd_op xo_non) (xad_cons (xd_op xo_int) (xad_cons (xd_op xo_bl) (xad_cons (xd_of (xx_tup (xad_cons (xd_nm (pn F 1 (by kernel_rfl))) xad_nil))) xad_nil)))))))))))))
    (ss_one (ss_ret (xx_ix C.K (xo_of (xx_bin (op_addU C.K) og_add (xo_name (pn F 2 (by kernel_rfl))) (xo_of (xx_lst (xad_cons (xd_of (xx_lst (xad_cons (xd_nm (pn F 1 (by kernel_rfl))) xad_nil))) (xad_cons (xd_of xx_dic0) (xad_cons (xd_of (xx_tup (xad_cons (xd_of (xx_lst (xad_cons (xd_nm (pn F 1 (by kernel_rfl))) xad_nil))) xad_nil))) (xad_cons (xd_op xo_str) (xad_cons (xd_op xo_str) xad_nil))))))))) (xo_of (xc (k0 := 1) C T r F O59 b59_2 (A.glo 66 rfl) (by omega) (by kernel_rfl) (fun _ => .nil) (xa_cons (xo_name (pn F 0 (by kernel_rfl))) (xa_cons xo_int xa_nil)) (lenA_cons (lenA_cons lenA_nil)) rfl)) (fun _ _ => rfl)))))
    ss_nil)
    (ss_cons (ssx (i := 2) C F hf (by kernel_rfl) (xx_lst (xad_cons (xd_of (xx_callTy (call_listU C.K) cg_list (F.g (by kernel_rfl)) (C.gm (A.fre 67 rfl)) (by kernel_rfl) (xa_cons (xo_name (pn F 1 (by kernel_rfl))) xa_nil))) (xad_cons (xd_of (xx_bin (op_addU C.K) og_add (xo_name (pn F 1 (by kernel_rfl))) (xo_of (xx_tup (xad_cons (xd_op xo_str) xad_nil))))) (xad_cons (xd_of (xx_sl C.K (xo_name (pn F 1 (by kernel_rfl))) xp_none (xp_some xo_int))) (xad_cons (xd_of (xx_tup xad_nil)) (xad_cons (xd_of (xx_lst xad_nil)) (xad_cons (xd_op xo_non) (xad_cons (xd_op xo_int) (xad_cons (xd_op xo_str) (xad_cons (xd_of xx_dic0) (xad_cons (xd_of (xx_rev C.K (xo_name (pn F 1 (by kernel_rfl))))) (xad_cons (xd_of (xx_tup (xad_cons (xd_nm (pn F 1 (by kernel_rfl))) xad_nil))) (xad_cons (xd_op xo_bl) xad_nil))))))))))))))
    (ss_one (ss_ret (xx_ix C.K (xo_of (xx_bin (op_addU C.K) og_add (xo_name (pn F 2 (by kernel_rfl))) (xo_of (xx_lst (xad_cons (xd_of (xx_bin (op_addU C.K) og_add (xo_name (pn F 1 (by kernel_rfl))) (xo_of (xx_sl C.K (xo_name (pn F 1 (by kernel_rfl))) xp_none (xp_some xo_int))))) xad_nil))))) (xo_of (xc (k0 := 1) C T r F O59 b59_2 (A.glo 66 rfl) (by omega) (by kernel_rfl) (fun _ => .nil) (xa_cons (xo_name (pn F 0 (by kernel_rfl))) (xa_cons xo_int xa_nil)) (lenA_cons (lenA_cons lenA_nil)) rfl)) (fun _ _ => rfl))))))
def N65 : List Str := [("_law_pool_here" : Str), ("_law_thing" : Str), ("_law_deep" : Str), ("_law_at" : Str), ("_law_way" : Str)]
abbrev sc65 : Scope := defScope s65
theorem S65 : FnScope N65 [("_law_pool_here" : Str), ("_law_thing" : Str), ("_law_deep" : Str)] sc65 := ⟨rfl, rfl, rfl, by decide +kernel, rfl, by decide +kernel, by decide +kernel⟩
theorem okr65 (A : All K mg h) (n : Nat) : ∃ fd, Ok P w (E K mg) base d65 (2 + n) [("_law_pool_here" : Str), ("_law_thing" : Str), ("_law_deep" : Str)] (F65 n) fd := by
  obtain ⟨fd, FD⟩ := A.c.def_ 32 (d := d65) rfl
  have b65_3 : ∃ ds, Vals ([] : List V) ds ∧ Binds (E K mg).K fd [("_law_pool_here" : Str), ("_law_thing" : Str), ("_law_deep" : Str)] ds := ⟨[], .nil, FD.bindsN fun _ _ _ _ _ _ us hl => match us, hl with | [_, _, _], _ => rfl⟩
  obtain ⟨fd59, O59⟩ := ok59 (P := P) (w := w) (base := base) A
  have b59_2 : ∃ ds, Vals ([] : List V) ds ∧ Binds (E K mg).K fd59 [("_law_pool_here" : Str), ("_law_many" : Str)] ds := ⟨[], .nil, O59.fd.bindsN fun _ _ _ _ _ _ us hl => match us, hl with | [_, _], _ => rfl⟩
  obtain ⟨fd64, O64⟩ := ok64 (P := P) (w := w) (base := base) A
  have b64_2 : ∃ ds, Vals ([] : List V) ds ∧ Binds (E K mg).K fd64 [("_law_pool_here" : Str), ("_law_thing" : Str)] ds := ⟨[], .nil, O64.fd.bindsN fun _ _ _ _ _ _ us hl => match us, hl with | [_, _], _ => rfl⟩
  induction n with
  | zero => exact ⟨fd, ⟨fnBad, FD⟩⟩
  | succ n ih =>
  obtain ⟨fdr, Or⟩ := ih
  have er : fdr = fd := funD_one Or.fd FD
  subst er
  refine ⟨fdr, ⟨fnD_ok (N := N65) (g := g65 (F65 n)) (k := 2 + n) FD S65 fun X W C cm hP hw hb0 r hX => ?_, FD⟩⟩
  have F : CF X N65 sc65 := by obtain ⟨_, _, _, _, _, _, rfl⟩ := hX; exact ⟨rfl, rfl⟩
  have hb : X.env.blockKind = .function := by obtain ⟨_, _, _, _, _, _, rfl⟩ := hX; rfl
  have hf : ∀ x, X.fn x = true := by obtain ⟨_, _, _, _, _, _, rfl⟩ := hX; intro _; rfl
  have T : At X P w base := ⟨hP, hw, hb0⟩
  clear hX
  exact
   (ss_cons (ss_if (xw_or (xt_not (xt_tru C (xo_of (xx_callB (call_isU C.K) (cg_isi (isi_ok A)) (F.g (by kernel_rfl)) (C.gm (A.fre 4 rfl)) (by kernel_rfl) (xa_cons (xo_name (pn F 1 (by kernel_rfl))) (xa_cons (xo_gty (F.g (by kernel_rfl)) (C.gm (A.fre 9 rfl)) (by kernel_rfl)) xa_nil)))))) (xw_or (xt_cmp (op_eq0 C.K (roomU r)) og_eq0 (xo_name (pn F 1 (by kernel_rfl))) (xo_of (xx_tup xad_nil)) (nomark _)) (xw_or (xt_cmp (op_eq2 C.K (roomU r)) og_eq2 (xo_name (pn F 2 (by kernel_rfl))) xo_int (nomark _)) (xw_or1 (xt_cmp (op_eq2 C.K (roomU r)) og_eq2 (xo_of (xc (k0 := 2 + n) C T r F O59 b59_2 (A.glo 66 rfl) (by omega) (by kernel_rfl) (fun _ => .nil) (xa_cons (xo_name (pn F 0 (by kernel_rfl))) (xa_cons xo_int xa_nil)) (lenA_cons (lenA_cons lenA_nil)) rfl)) xo_int (nomark _)))))).pt
    (ss_one (ss_ret (xc (k0 := 2 + n) C T r F O64 b64_2 (A.glo 68 rfl) (by omega) (by kernel_rfl) (fun _ => .nil) (xa_cons (xo_name (pn F 0 (by kernel_rfl))) (xa_cons (xo_name (pn F 1 (by kernel_rfl))) xa_nil)) (lenA_cons (lenA_cons lenA_nil)) rfl)))
    ss_nil)
    (ss_cons (ss_par (i := 3) (j := 4) C cm F hb (xad_cons (xd_of (xc (k0 := 2 + n) C T r F O59 b59_2 (A.glo 66 rfl) (by omega) (by kernel_rfl) (fun _ => .nil) (xa_cons (xo_name (pn F 0 (by kernel_rfl))) (xa_cons (xo_of (xx_callB (call_lenU C.K) cg_len (F.g (by kernel_rfl)) (C.gm (A.fre 5 rfl)) (by kernel_rfl) (xa_cons (xo_name (pn F 1 (by kernel_rfl))) xa_nil))) xa_nil)) (lenA_cons (lenA_cons lenA_nil)) rfl)) (xad_cons (xd_of (xc (k0 := 2 + n) C T r F O59 b59_2 (A.glo 66 rfl) (by omega) (by kernel_rfl) (fun _ => .nil) (xa_cons (xo_name (pn F 0 (by kernel_rfl))) (xa_cons xo_int xa_nil)) (lenA_cons (lenA_cons lenA_nil)) rfl)) xad_nil)) (by kernel_rfl))
    (ss_cons (ss_if (xt_cmp (op_eq2 C.K (roomU r)) og_eq2 (xo_name (pn F 4 (by kernel_rfl))) xo_int (nomark _))
    (ss_one (ss_ret (xx_bin (op_addU C.K) og_add (xo_of (xx_sl C.K (xo_name (pn F 1 (by kernel_rfl))) xp_none (xp_some (xo_name (pn F 3 (by kernel_rfl)))))) (xo_of (xx_sl C.K (xo_name (pn F 1 (by kernel_rfl))) (xp_some (xo_of (xx_bin (op_addU C.K) og_add (xo_name (pn F 3 (by kernel_rfl))) xo_int))) xp_none)))))
    ss_nil)
    (ss_cons (ss_if (xt_cmp (op_eq2 C.K (roomU r)) og_eq2 (xo_name (pn F 4 (by kernel_rfl))) xo_int (nomark _))
    (ss_one (ss_ret (xx_bin (op_addU C.K) og_add (xo_of (xx_sl C.K (xo_name (pn F 1 (by kernel_rfl))) xp_none (xp_some (xo_of (xx_bin (op_addU C.K) og_add (xo_name (pn F 3 (by kernel_rfl))) xo_int))))) (xo_of (xx_sl C.K (xo_name (pn F 1 (by kernel_rfl))) (xp_some (xo_name (pn F 3 (by kernel_rfl)))) xp_none)))))
    ss_nil)
    (ss_one (ss_ret (xx_bin (op_addU C.K) og_add (xo_of (xx_bin (op_addU C.K) og_add (xo_of (xx_sl C.K (xo_name (pn F 1 (by kernel_rfl))) xp_none (xp_some (xo_name (pn F 3 (by kernel_rfl)))))) (xo_of (xx_tup (xad_cons (xd_of (xc (k0 := 2 + n) C T r F Or b65_3 (A.glo 64 rfl) (by omega) (by kernel_rfl) (fun _ => .nil) (xa_cons (xo_name (pn F 0 (by kernel_rfl))) (xa_cons (xo_of (xx_ix C.K (xo_name (pn F 1 (by kernel_rfl))) (xo_name (pn F 3 (by kernel_rfl))) (fun _ _ => rfl))) (xa_cons (xo_of (xx_bin op_subU og_sub (xo_name (pn F 2 (by kernel_rfl))) xo_int)) xa_nil))) (lenA_cons (lenA_cons (lenA_cons lenA_nil))) rfl)) xad_nil))))) (xo_of (xx_sl C.K (xo_name (pn F 1 (by kernel_rfl))) (xp_some (xo_of (xx_bin (op_addU C.K) og_add (xo_name (pn F 3 (by kernel_rfl))) xo_int))) xp_none)))))))))
theorem ok65 (A : All K mg h) : ∃ fd, Ok P w (E K mg) base d65 10 [("_law_pool_here" : Str), ("_law_thing" : Str), ("_law_deep" : Str)] (F65 8) fd := okr65 A 8
def N60 : List Str := [("_law_pool_here" : Str), ("_law_own" : Str), ("_law_letters" : Str), ("_law_found" : Str), ("_law_place" : Str)]
abbrev sc60 : Scope := defScope s60
theorem S60 : FnScope N60 [("_law_pool_here" : Str)] sc60 := ⟨rfl, rfl, rfl, by decide +kernel, rfl, by decide +kernel, by decide +kernel⟩
theorem ok60 (A : All K mg h) : ∃ fd, Ok P w (E K mg) base d60 2 [("_law_pool_here" : Str)] F60 fd := by
  obtain ⟨fd, FD⟩ := A.c.def_ 27 (d := d60) rfl
  obtain ⟨fd59, O59⟩ := ok59 (P := P) (w := w) (base := base) A
  have b59_2 : ∃ ds, Vals ([] : List V) ds ∧ Binds (E K mg).K fd59 [("_law_pool_here" : Str), ("_law_many" : Str)] ds := ⟨[], .nil, O59.fd.bindsN fun _ _ _ _ _ _ us hl => match us, hl with | [_, _], _ => rfl⟩
  refine ⟨fd, ⟨fnD_ok (N := N60) (g := g60) (k := 1) FD S60 fun X W C cm hP hw hb0 r hX => ?_, FD⟩⟩
  have F : CF X N60 sc60 := by obtain ⟨_, _, _, _, _, _, rfl⟩ := hX; exact ⟨rfl, rfl⟩
  have hb : X.env.blockKind = .function := by obtain ⟨_, _, _, _, _, _, rfl⟩ := hX; rfl
  have hf : ∀ x, X.fn x = true := by obtain ⟨_, _, _, _, _, _, rfl⟩ := hX; intro _; rfl
  have T : At X P w base := ⟨hP, hw, hb0⟩
  clear hX
  exact
   (ss_cons (ssx (i := 1) C F hf (by kernel_rfl) (xx_lst (xad_cons (xd_op xo_str) (xad_cons (xd_op xo_str) (xad_cons (xd_op xo_str) (xad_cons (xd_op xo_str) (xad_cons (xd_op xo_str) (xad_cons (xd_op xo_str) (xad_cons (xd_op xo_str) (xad_cons (xd_op xo_str) (xad_cons (xd_op xo_str) (xad_cons (xd_op xo_str) (xad_cons (xd_op xo_str) (xad_cons (xd_op xo_str) (xad_cons (xd_op xo_str) xad_nil)))))))))))))))
    (ss_cons (ssx (i := 1) C F hf (by kernel_rfl) (xx_bin (op_addU C.K) og_add (xo_name (pn F 1 (by kernel_rfl))) (xo_of (xx_lst (xad_cons (xd_op xo_str) (xad_cons (xd_op xo_str) (xad_cons (xd_op xo_str) (xad_cons (xd_op xo_str) (xad_cons (xd_op xo_str) (xad_cons (xd_op xo_str) (xad_cons (xd_op xo_str) (xad_cons (xd_op xo_str) (xad_cons (xd_op xo_str) (xad_cons (xd_op xo_str) (xad_cons (xd_op xo_str) (xad_cons (xd_op xo_str) xad_nil))))))))))))))))
    (ss_cons (ss_if (xt_cmp (op_eq2 C.K (roomU r)) og_eq2 (xo_of (xc (k0 := 1) C T r F O59 b59_2 (A.glo 66 rfl) (by omega) (by kernel_rfl) (fun _ => .nil) (xa_cons (xo_name (pn F 0 (by kernel_rfl))) (xa_cons xo_int xa_nil)) (lenA_cons (lenA_cons lenA_nil)) rfl)) xo_int (nomark _))
    (ss_one (ss_ret (xx_ix C.K (xo_name (pn F 1 (by kernel_rfl))) (xo_of (xc (k0 := 1) C T r F O59 b59_2 (A.glo 66 rfl) (by omega) (by kernel_rfl) (fun _ => .nil) (xa_cons (xo_name (pn F 0 (by kernel_rfl))) (xa_cons xo_int xa_nil)) (lenA_cons (lenA_cons lenA_nil)) rfl)) (fun _ _ => rfl))))
    ss_nil)
    (ss_cons (ss_asgT (xx_tup (xad_cons (xd_op xo_str) (xad_cons (xd_op xo_str) xad_nil))) (sg_tup C.K cm (sg_cons (sgx C F hf 2 (by kernel_rfl)) (sg_cons (sgx C F hf 3 (by kernel_rfl)) sg_nil))) (hw := (sw_const rfl)))
    (ss_cons (ss_for C cm (xi_rg1 (F.g (by kernel_rfl)) (C.gm (A.fre 61 rfl)) (xo_of (xx_bin (op_addU C.K) og_add xo_int (xo_of (xc (k0 := 1) C T r F O59 b59_2 (A.glo 66 rfl) (by omega) (by kernel_rfl) (fun _ => .nil) (xa_cons (xo_name (pn F 0 (by kernel_rfl))) (xa_cons xo_int xa_nil)) (lenA_cons (lenA_cons lenA_nil)) rfl))))) (sgx C F hf 4 (by kernel_rfl))
    (ss_one (ssx (i := 3) C F hf (by kernel_rfl) (xx_bin (op_addU C.K) og_add (xo_name (pn F 3 (by kernel_rfl))) (xo_of (xx_ix C.K (xo_name (pn F 2 (by kernel_rfl))) (xo_of (xc (k0 := 1) C T r F O59 b59_2 (A.glo 66 rfl) (by omega) (by kernel_rfl) (fun _ => .nil) (xa_cons (xo_name (pn F 0 (by kernel_rfl))) (xa_cons xo_int xa_nil)) (lenA_cons (lenA_cons lenA_nil)) rfl)) (fun _ _ => rfl)))))))
    (ss_one (ss_ret (xx_mv (pn F 3 (by kernel_rfl))))))))))
def N61 : List Str := [("_law_pool_here" : Str), ("_law_found" : Str), ("_law_turn" : Str), ("_law_many" : Str), ("_law_words" : Str), ("_law_some" : Str), ("_law_place" : Str)]
abbrev sc61 : Scope := defScope s61
theorem S61 : FnScope N61 [("_law_pool_here" : Str)] sc61 := ⟨rfl, rfl, rfl, by decide +kernel, rfl, by decide +kernel, by decide +kernel⟩
theorem ok61 (A : All K mg h) : ∃ fd, Ok P w (E K mg) base d61 3 [("_law_pool_here" : Str)] F61 fd := by
  obtain ⟨fd, FD⟩ := A.c.def_ 28 (d := d61) rfl
  obtain ⟨fd59, O59⟩ := ok59 (P := P) (w := w) (base := base) A
  have b59_2 : ∃ ds, Vals ([] : List V) ds ∧ Binds (E K mg).K fd59 [("_law_pool_here" : Str), ("_law_many" : Str)] ds := ⟨[], .nil, O59.fd.bindsN fun _ _ _ _ _ _ us hl => match us, hl with | [_, _], _ => rfl⟩
  obtain ⟨fd60, O60⟩ := ok60 (P := P) (w := w) (base := base) A
  have b60_1 : ∃ ds, Vals ([] : List V) ds ∧ Binds (E K mg).K fd60 [("_law_pool_here" : Str)] ds := ⟨[], .nil, O60.fd.bindsN fun _ _ _ _ _ _ us hl => match us, hl with | [_], _ => rfl⟩
  refine ⟨fd, ⟨fnD_ok (N := N61) (g := g61) (k := 2) FD S61 fun X W C cm hP hw hb0 r hX => ?_, FD⟩⟩
  have F : CF X N61 sc61 := by obtain ⟨_, _, _, _, _, _, rfl⟩ := hX; exact ⟨rfl, rfl⟩
  have hb : X.env.blockKind = .function := by obtain ⟨_, _, _, _, _, _, rfl⟩ := hX; rfl
  have hf : ∀ x, X.fn x = true := by obtain ⟨_, _, _, _, _, _, rfl⟩ := hX; intro _; rfl
  have T : At X P w base := ⟨hP, hw, hb0⟩
  clear hX
  exact
   (ss_cons (ssx (i := 1) C F hf (by kernel_rfl) (xx_lst xad_nil))
    (ss_cons (ss_for C cm (xi_rg1 (F.g (by kernel_rfl)) (C.gm (A.fre 61 rfl)) (xo_of (xx_ix C.K (xo_of (xx_lst (xad_cons (xd_op xo_int) (xad_cons (xd_op xo_int) (xad_cons (xd_op xo_int) (xad_cons (xd_of (xx_bin (op_addU C.K) og_add xo_int (xo_of (xc (k0 := 2) C T r F O59 b59_2 (A.glo 66 rfl) (by omega) (by kernel_rfl) (fun _ => .nil) (xa_cons (xo_name (pn F 0 (by kernel_rfl))) (xa_cons xo_int xa_nil)) (lenA_cons (lenA_cons lenA_nil)) rfl)))) (xad_cons (xd_op xo_int) (xad_cons (xd_op xo_int) xad_nil)))))))) (xo_of (xc (k0 := 2) C T r F O59 b59_2 (A.glo 66 rfl) (by omega) (by kernel_rfl) (fun _ => .nil) (xa_cons (xo_name (pn F 0 (by kernel_rfl))) (xa_cons xo_int xa_nil)) (lenA_cons (lenA_cons lenA_nil)) rfl)) (fun _ _ => rfl)))) (sgx C F hf 2 (by kernel_rfl))
    (ss_cons (ssx (i := 3) C F hf (by kernel_rfl) (xx_ix C.K (xo_of (xx_lst (xad_cons (xd_op xo_int) (xad_cons (xd_of (xx_bin (op_addU C.K) og_add xo_int (xo_of (xc (k0 := 2) C T r F O59 b59_2 (A.glo 66 rfl) (by omega) (by kernel_rfl) (fun _ => .nil) (xa_cons (xo_name (pn F 0 (by kernel_rfl))) (xa_cons xo_int xa_nil)) (lenA_cons (lenA_cons lenA_nil)) rfl)))) (xad_cons (xd_op xo_int) (xad_cons (xd_op xo_int) (xad_cons (xd_op xo_int) (xad_cons (xd_op xo_int) (xad_cons (xd_op xo_int) (xad_cons (xd_op xo_int) (xad_cons (xd_op xo_int) (xad_cons (xd_op xo_int) (xad_cons (xd_op xo_int) (xad_cons (xd_op xo_int) xad_nil)))))))))))))) (xo_of (xc (k0 := 2) C T r F O59 b59_2 (A.glo 66 rfl) (by omega) (by kernel_rfl) (fun _ => .nil) (xa_cons (xo_name (pn F 0 (by kernel_rfl))) (xa_cons xo_int xa_nil)) (lenA_cons (lenA_cons lenA_nil)) rfl)) (fun _ _ => rfl)))
    (ss_cons (ssx (i := 4) C F hf (by kernel_rfl) (xx_lst (xad_cons (xd_op xo_str) (xad_cons (xd_op xo_str) (xad_cons (xd_op xo_str) xad_nil)))))
    (ss_cons (ssc (i := 5) C cm F hb (hc := (by kernel_rfl)) (own := [(("_law_place" : Str), 6)]) (is := [6]) (xi_rg1 (F.g (by kernel_rfl)) (C.gm (A.fre 61 rfl)) (xo_name (pn F 3 (by kernel_rfl)))) (F.blk (by kernel_rfl)) (by decide) (fun Y C1 cm1 hY => by
    have F1 := F.subY hY
    have T1 := T.subY hY
    have r1 := roomY r hY
    exact ⟨(sgb C1 F1 6 (by kernel_rfl)), xts_nil, (xx_tup (xad_cons (xd_of (xx_ix C1.K (xo_name (pn F1 4 (by kernel_rfl))) (xo_of (xc (k0 := 2) C1 T1 r1 F1 O59 b59_2 (A.glo 66 rfl) (by omega) (by kernel_rfl) (fun _ => .nil) (xa_cons (xo_name (pn F1 0 (by kernel_rfl))) (xa_cons xo_int xa_nil)) (lenA_cons (lenA_cons lenA_nil)) rfl)) (fun _ _ => rfl))) (xad_cons (xd_of (xc (k0 := 2) C1 T1 r1 F1 O60 b60_1 (A.glo 69 rfl) (by omega) (by kernel_rfl) (fun _ => .nil) (xa_cons (xo_name (pn F1 0 (by kernel_rfl))) xa_nil) (lenA_cons lenA_nil) rfl)) xad_nil)))⟩))
    (ss_one (ss_expr (xx_mu PySem.F.slot_list_append rfl mt_append mg_append (pn F 1 (by kernel_rfl)) (xad_cons (xd_of (xx_callTy (call_tupU C.K) cg_tuple (F.g (by kernel_rfl)) (C.gm (A.fre 9 rfl)) (by kernel_rfl) (xa_cons (xo_name (pn F 5 (by kernel_rfl))) xa_nil))) xad_nil))))))))
    (ss_one (ss_ret (xx_callTy (call_tupU C.K) cg_tuple (F.g (by kernel_rfl)) (C.gm (A.fre 9 rfl)) (by kernel_rfl) (xa_cons (xo_name (pn F 1 (by kernel_rfl))) xa_nil))))))
def N58 : List Str := [("_law_script" : Str), ("_law_k" : Str), ("_law_cell" : Str), ("_law_more" : Str), ("_law_found" : Str), ("_law_turn" : Str)]
abbrev sc58 : Scope := defScope s58
theorem S58 : FnScope N58 [("_law_script" : Str), ("_law_k" : Str)] sc58 := ⟨rfl, rfl, rfl, by decide +kernel, rfl, by decide +kernel, by decide +kernel⟩
theorem ok58 (A : All K mg h) : ∃ fd, Ok P w (E K mg) base d58 1 [("_law_script" : Str), ("_law_k" : Str)] F58 fd := by
  obtain ⟨fd, FD⟩ := A.c.def_ 25 (d := d58) rfl
  refine ⟨fd, ⟨fnD_ok (N := N58) (g := g58) (k := 0) FD S58 fun X W C cm hP hw hb0 r hX => ?_, FD⟩⟩
  have F : CF X N58 sc58 := by obtain ⟨_, _, _, _, _, _, rfl⟩ := hX; exact ⟨rfl, rfl⟩
  have hb : X.env.blockKind = .function := by obtain ⟨_, _, _, _, _, _, rfl⟩ := hX; rfl
  have hf : ∀ x, X.fn x = true := by obtain ⟨_, _, _, _, _, _, rfl⟩ := hX; intro _; rfl
  have T : At X P w base := ⟨hP, hw, hb0⟩
  clear hX
  exact
   (ss_cons (ssx (i := 2) C F hf (by kernel_rfl) (xx_callB (call_sumU C.K cm) cg_sum (F.g (by kernel_rfl)) (C.gm (A.fre 72 rfl)) (by kernel_rfl) (xa_cons (xo_of (xx_sl C.K (xo_name (pn F 0 (by kernel_rfl))) (xp_some (xo_name (pn F 1 (by kernel_rfl)))) (xp_some (xo_of (xx_bin (op_addU C.K) og_add (xo_name (pn F 1 (by kernel_rfl))) xo_int))))) xa_nil)))
    (ss_cons (ss_if (xw_or (xt_cmp op_ltU og_cmp (xo_name (pn F 2 (by kernel_rfl))) xo_int (nomark _)) (xw_or1 (xt_cmp op_geU og_cmp (xo_name (pn F 2 (by kernel_rfl))) (xo_of (xx_bin op_pow og_pow xo_int xo_int)) (nomark _)))).pt
    (ss_one (ss_ret (xx_lst (xad_cons (xd_of (xx_bin op_mod og_mod (xo_of (xx_callB call_abs cg_abs (F.g (by kernel_rfl)) (C.gm (A.fre 71 rfl)) (by kernel_rfl) (xa_cons (xo_name (pn F 2 (by kernel_rfl))) xa_nil))) (xo_of (xx_bin (op_mulU C.K) og_rep (xo_of (xx_bin (op_mulU C.K) og_rep (xo_of (xx_bin (op_mulU C.K) og_rep (xo_of (xx_bin (op_mulU C.K) og_rep (xo_of (xx_bin (op_mulU C.K) og_rep (xo_of (xx_bin op_pow og_pow xo_int xo_int)) (xo_of (xx_bin op_pow og_pow xo_int xo_int)))) (xo_of (xx_bin op_pow og_pow xo_int xo_int)))) (xo_of (xx_bin op_pow og_pow xo_int xo_int)))) (xo_of (xx_bin op_pow og_pow xo_int xo_int)))) (xo_of (xx_bin op_pow og_pow xo_int xo_int)))))) xad_nil))))
    ss_nil)
    (ss_cons (ssx (i := 3) C F hf (by kernel_rfl) (xx_bin (op_addU C.K) og_add (xo_of (xx_bin (op_addU C.K) og_add (xo_of (xx_bin (op_mulU C.K) og_rep (xo_name (pn F 2 (by kernel_rfl))) xo_int)) (xo_of (xx_bin (op_mulU C.K) og_rep (xo_of (xx_bin (op_mulU C.K) og_rep xo_int (xo_name (pn F 1 (by kernel_rfl))))) (xo_name (pn F 1 (by kernel_rfl))))))) xo_int))
    (ss_cons (ssx (i := 4) C F hf (by kernel_rfl) (xx_of xo_int))
    (ss_cons (ss_for C cm (xi_rg1 (F.g (by kernel_rfl)) (C.gm (A.fre 61 rfl)) xo_int) (sgx C F hf 5 (by kernel_rfl))
    (ss_cons (ssx (i := 3) C F hf (by kernel_rfl) (xx_bin op_mod og_mod (xo_of (xx_bin (op_addU C.K) og_add (xo_of (xx_bin (op_addU C.K) og_add (xo_of (xx_bin (op_mulU C.K) og_rep (xo_of (xx_bin op_mod og_mod (xo_name (pn F 3 (by kernel_rfl))) xo_int)) xo_int)) (xo_of (xx_bin (op_mulU C.K) og_rep xo_int (xo_name (pn F 5 (by kernel_rfl))))))) xo_int)) xo_int))
    (ss_one (ssx (i := 4) C F hf (by kernel_rfl) (xx_bin (op_addU C.K) og_add (xo_of (xx_bin (op_mulU C.K) og_rep (xo_name (pn F 4 (by kernel_rfl))) (xo_of (xx_bin op_pow og_pow xo_int xo_int)))) (xo_of (xx_bin op_mod og_mod (xo_of (xx_bin (op_mulU C.K) og_rep (xo_name (pn F 3 (by kernel_rfl))) (xo_of (xx_bin (op_addU C.K) og_add (xo_of (xx_bin op_mod og_mod (xo_name (pn F 3 (by kernel_rfl))) xo_int)) xo_int)))) xo_int)))))))
    (ss_one (ss_ret (xx_lst (xad_cons (xd_nm (pn F 4 (by kernel_rfl))) xad_nil)))))))))
def N68 : List Str := [("_law_script" : Str), ("_law_k" : Str), ("_law_pool_here" : Str), ("_law_spoils" : Str), ("_law_turn" : Str), ("_law_made" : Str), ("_law_spoil" : Str), ("_law_more" : Str), ("_law_some" : Str), ("_law_one" : Str), ("_law_thing" : Str)]
abbrev sc68 : Scope := defScope s68
theorem S68 : FnScope N68 [("_law_script" : Str)] sc68 := ⟨rfl, rfl, rfl, by decide +kernel, rfl, by decide +kernel, by decide +kernel⟩
theorem ok68 (A : All K mg h) : ∃ fd, OkG P w (E K mg) base d68 11 [("_law_script" : Str)] F68 fd := by
  obtain ⟨fd, FD⟩ := A.c.def_ 35 (d := d68) rfl
  obtain ⟨fd67, O67⟩ := ok67 (P := P) (w := w) (base := base) A
  have b67_1 : ∃ ds, Vals ([] : List V) ds ∧ Binds (E K mg).K fd67 [("_law_thing" : Str)] ds := ⟨[], .nil, O67.fd.bindsN fun _ _ _ _ _ _ us hl => match us, hl with | [_], _ => rfl⟩
  obtain ⟨fd65, O65⟩ := ok65 (P := P) (w := w) (base := base) A
  have b65_3 : ∃ ds, Vals ([] : List V) ds ∧ Binds (E K mg).K fd65 [("_law_pool_here" : Str), ("_law_thing" : Str), ("_law_deep" : Str)] ds := ⟨[], .nil, O65.fd.bindsN fun _ _ _ _ _ _ us hl => match us, hl with | [_, _, _], _ => rfl⟩
  obtain ⟨fd61, O61⟩ := ok61 (P := P) (w := w) (base := base) A
  have b61_1 : ∃ ds, Vals ([] : List V) ds ∧ Binds (E K mg).K fd61 [("_law_pool_here" : Str)] ds := ⟨[], .nil, O61.fd.bindsN fun _ _ _ _ _ _ us hl => match us, hl with | [_], _ => rfl⟩
  obtain ⟨fd59, O59⟩ := ok59 (P := P) (w := w) (base := base) A
  have b59_2 : ∃ ds, Vals ([] : List V) ds ∧ Binds (E K mg).K fd59 [("_law_pool_here" : Str), ("_law_many" : Str)] ds := ⟨[], .nil, O59.fd.bindsN fun _ _ _ _ _ _ us hl => match us, hl with | [_, _], _ => rfl⟩
  obtain ⟨fd58, O58⟩ := ok58 (P := P) (w := w) (base := base) A
  have b58_2 : ∃ ds, Vals ([] : List V) ds ∧ Binds (E K mg).K fd58 [("_law_script" : Str), ("_law_k" : Str)] ds := ⟨[], .nil, O58.fd.bindsN fun _ _ _ _ _ _ us hl => match us, hl with | [_, _], _ => rfl⟩
  refine ⟨fd, ⟨fnG_ok (N := N68) (g := g68) (k := 10) FD S68 fun X W C cm hP hw hb0 gd r hX => ?_, FD⟩⟩
  have F : CF X N68 sc68 := by obtain ⟨_, _, _, _, _, _, rfl⟩ := hX; exact ⟨rfl, rfl⟩
  have hb : X.env.blockKind = .function := by obtain ⟨_, _, _, _, _, _, rfl⟩ := hX; rfl
  have hf : ∀ x, X.fn x = true := by obtain ⟨_, _, _, _, _, _, rfl⟩ := hX; intro _; rfl
  have T : At X P w base := ⟨hP, hw, hb0⟩
  clear hX
  exact
   (ss_cons (ss_for C cm (xi_rg1 (F.g (by kernel_rfl)) (C.gm (A.fre 61 rfl)) (xo_of (xx_callB (call_max2 cm) cg_int2 (F.g (by kernel_rfl)) (C.gm (A.fre 63 rfl)) (by kernel_rfl) (xa_cons xo_int (xa_cons (xo_of (xx_callB (call_min2 cm) cg_int2 (F.g (by kernel_rfl)) (C.gm (A.fre 62 rfl)) (by kernel_rfl) (xa_cons (xo_of (xx_callB (call_lenU C.K) cg_len (F.g (by kernel_rfl)) (C.gm (A.fre 5 rfl)) (by kernel_rfl) (xa_cons (xo_name (pn F 0 (by kernel_rfl))) xa_nil))) (xa_cons xo_int xa_nil)))) xa_nil))))) (sgx C F hf 1 (by kernel_rfl))
    (ss_cons (ssx (i := 2) C F hf (by kernel_rfl) (xc (k0 := 10) C T r F O58 b58_2 (A.glo 73 rfl) (by omega) (by kernel_rfl) (fun _ => .nil) (xa_cons (xo_name (pn F 0 (by kernel_rfl))) (xa_cons (xo_name (pn F 1 (by kernel_rfl))) xa_nil)) (lenA_cons (lenA_cons lenA_nil)) rfl))
    (ss_cons (ssc (i := 3) C cm F hb (hc := (by kernel_rfl)) (own := [(("_law_turn" : Str), 4)]) (is := [4]) (xi_rg1 (F.g (by kernel_rfl)) (C.gm (A.fre 61 rfl)) xo_int) (F.blk (by kernel_rfl)) (by decide) (fun Y C2 cm2 hY => by
    have F2 := F.subY hY
    have T2 := T.subY hY
    have r2 := roomY r hY
    have gd2 := gdY gd hY
    exact ⟨(sgb C2 F2 4 (by kernel_rfl)), xts_nil, (xc (k0 := 10) C2 T2 r2 F2 O59 b59_2 (A.glo 66 rfl) (by omega) (by kernel_rfl) (fun _ => .nil) (xa_cons (xo_name (pn F2 2 (by kernel_rfl))) (xa_cons (xo_of (xx_bin op_pow og_pow xo_int xo_int)) xa_nil)) (lenA_cons (lenA_cons lenA_nil)) rfl)⟩))
    (ss_cons (ssx (i := 5) C F hf (by kernel_rfl) (xc (k0 := 10) C T r F O61 b61_1 (A.glo 70 rfl) (by omega) (by kernel_rfl) (fun _ => .nil) (xa_cons (xo_name (pn F 2 (by kernel_rfl))) xa_nil) (lenA_cons lenA_nil) rfl))
    (ss_cons (ss_if (xt_not (xt_tru C (xo_of (xcG gd (k0 := 10) C T r F O67 b67_1 (A.glo 60 rfl) (by omega) (by kernel_rfl) (fun _ => .nil) (xa_cons (xo_name (pn F 5 (by kernel_rfl))) xa_nil) (lenA_cons lenA_nil) rfl))))
    (ss_one (ss_ret (xx_of xo_bl)))
    ss_nil)
    (ss_one (ss_for C cm (xi_any C.K (xd_nm (pn F 3 (by kernel_rfl)))) (sgx C F hf 6 (by kernel_rfl))
    (ss_cons (ssx (i := 7) C F hf (by kernel_rfl) (xx_bin (op_addU C.K) og_add (xo_of (xx_bin op_mod og_mod (xo_of (xx_bin (op_mulU C.K) og_rep (xo_name (pn F 6 (by kernel_rfl))) xo_int)) xo_int)) (xo_of (xx_bin (op_mulU C.K) og_rep (xo_of (xx_bin op_pow og_pow xo_int xo_int)) (xo_of (xx_bin (op_addU C.K) og_add (xo_of (xx_bin op_mod og_mod (xo_of (xx_bin (op_mulU C.K) og_rep (xo_name (pn F 6 (by kernel_rfl))) xo_int)) xo_int)) xo_int))))))
    (ss_one (ss_if (xt_not (xt_tru C (xo_of (xcG gd (k0 := 10) C T r F O67 b67_1 (A.glo 60 rfl) (by omega) (by kernel_rfl) (fun _ => .nil) (xa_cons (xo_of (xcp (k0 := 10) C T r F O65 b65_3 (A.glo 64 rfl) (by omega) (by kernel_rfl) (fun _ => .nil) (xa_head (xx_lst (xad_cons (xd_nm (pn F 7 (by kernel_rfl))) xad_nil)) (xa_cons (xo_name (pn F 5 (by kernel_rfl))) (xa_cons xo_int xa_nil))) (lenA_cons (lenA_cons lenA_nil)) rfl)) xa_nil) (lenA_cons lenA_nil) rfl))))
    (ss_one (ss_ret (xx_of xo_bl)))
    ss_nil))))))))))
    (ss_cons (ssx (i := 8) C F hf (by kernel_rfl) (xx_lst (xad_cons (xd_op xo_non) (xad_cons (xd_op xo_int) (xad_cons (xd_op xo_bl) (xad_cons (xd_op xo_str) (xad_cons (xd_op xo_str) (xad_cons (xd_of (xx_tup (xad_cons (xd_op xo_str) (xad_cons (xd_op xo_str) xad_nil)))) (xad_cons (xd_of (xx_tup (xad_cons (xd_of (xx_tup (xad_cons (xd_op xo_str) (xad_cons (xd_op xo_str) xad_nil)))) xad_nil))) (xad_cons (xd_of (xx_lst (xad_cons (xd_of (xx_tup (xad_cons (xd_of (xx_tup (xad_cons (xd_op xo_str) (xad_cons (xd_op xo_str) xad_nil)))) xad_nil))) xad_nil))) (xad_cons (xd_of xx_dic0) (xad_cons (xd_of (xx_tup xad_nil)) (xad_cons (xd_of (xx_tup (xad_cons (xd_of (xx_tup xad_nil)) xad_nil))) (xad_cons (xd_of (xx_tup (xad_cons (xd_of (xx_tup (xad_cons (xd_of (xx_tup xad_nil)) xad_nil))) xad_nil))) xad_nil))))))))))))))
    (ss_cons (ssx (i := 9) C F hf (by kernel_rfl) (xx_tup (xad_cons (xd_of (xx_tup (xad_cons (xd_op xo_str) (xad_cons (xd_op xo_str) xad_nil)))) xad_nil)))
    (ss_cons (ssx (i := 8) C F hf (by kernel_rfl) (xx_bin (op_addU C.K) og_add (xo_name (pn F 8 (by kernel_rfl))) (xo_of (xx_lst (xad_cons (xd_of (xx_tup (xad_cons (xd_nm (pn F 9 (by kernel_rfl))) xad_nil))) (xad_cons (xd_of (xx_bin (op_mulU C.K) og_rep (xo_of (xx_tup (xad_cons (xd_of (xx_bin (op_mulU C.K) og_rep (xo_name (pn F 9 (by kernel_rfl))) xo_int)) xad_nil))) xo_int)) (xad_cons (xd_of (xx_tup (xad_cons (xd_of (xx_bin (op_mulU C.K) og_rep (xo_name (pn F 9 (by kernel_rfl))) xo_int)) xad_nil))) (xad_cons (xd_of (xx_bin (op_mulU C.K) og_rep (xo_of (xx_tup (xad_cons (xd_nm (pn F 9 (by kernel_rfl))) xad_nil))) xo_int)) xad_nil))))))))
    (ss_one (ss_ret (xx_callB (call_allU C.K cm) cg_all (F.g (by kernel_rfl)) (C.gm (A.fre 2 rfl)) (by kernel_rfl) (xa_cons (xo_of (xx_comp C cm (own := [(("_law_thing" : Str), 10)]) (is := [10]) (xi_any C.K (xd_nm (pn F 8 (by kernel_rfl)))) (F.blk (by kernel_rfl)) (by decide) (fun Y C1 cm1 hY => by
    have F1 := F.subY hY
    have T1 := T.subY hY
    have r1 := roomY r hY
    have gd1 := gdY gd hY
    exact ⟨(sgb C1 F1 10 (by kernel_rfl)), xts_nil, (xcG gd1 (k0 := 10) C1 T1 r1 F1 O67 b67_1 (A.glo 60 rfl) (by omega) (by kernel_rfl) (fun _ => .nil) (xa_cons (xo_name (pn F1 10 (by kernel_rfl))) xa_nil) (lenA_cons lenA_nil) rfl)⟩))) xa_nil))))))))
end
theorem facts {P : Program} {w : World} {K : PySem.W.Frag} {h : Heap} {mg : Str → Option Value} {f : Addr} (X : K.In h) (G : h.Ns mainGlobals mg) (hfa : mg ("law" : Str) = some (.ref f)) (c : He.SaysD fa fn K) (hex : ex K = true) :
    ∃ fd : FuncData, (∀ (s : Shared) (v : Value), BindsTo s fd ⟨[v], []⟩ [("_law_script", v)]) ∧ ∀ base : Heap, K.In base → base.Ns mainGlobals mg → FnG P w K mg base (CXa P) 11 f fd ["_law_script"] (spD (E K mg) 1 F68) := by
  have A : All K mg h := ⟨c, X, G, hex⟩
  have e : mg ("law" : Str) = _ := A.glo 74 rfl
  have e2 := hfa.symm.trans e
  obtain ⟨fd0, F0⟩ := c.def_ 35 (d := d68) rfl
  have key : ∀ base : Heap, ∃ fd, OkG P w (E K mg) base d68 11 ["_law_script"] F68 fd := fun base => ok68 A
  refine ⟨fd0, fun s v => F0.bindsA (ps := ["_law_script"]) (fun _ _ _ _ _ _ us hl => match us, hl with | [_], _ => rfl) s [v] rfl, fun base _ _ => ?_⟩
  obtain ⟨fd, O⟩ := key base
  have e3 : fd = fd0 := funD_one O.fd F0
  subst e3
  have e4 : f = He.fAd K d68.at_ := by
    injection (Option.some.inj e2) with e5
  rw [e4]
  exact fnG_any O.fn
end Hd
open PySem PySem.W PySem.Calls PyProof.Rows in
theorem holds_of (math : ∀ ns : List Int, ns.length ≤ 63 → ∃ ρ, Dn.F68 [L2.WD.Sl.fz (.scr ns)] = .ok ρ (.fz (.bl true))) : PySem.Challenge.rw_willdealt_k16_what_a_whom_is.Holds := by
  w_on; o_law
  refine HandSHeadRun.head_any (r := OpenLaw.row PySem.Challenge.rw_willdealt_k16_what_a_whom_is) (q := view (OpenLaw.row PySem.Challenge.rw_willdealt_k16_what_a_whom_is).prog [72]) (H := Hd.hk) (ob := Hd.ob) (M := 20000) (loose := Hd.nms) (d := HandSHeadRun.topDef (OpenLaw.row PySem.Challenge.rw_willdealt_k16_what_a_whom_is).prog 72) (kwd := []) Hd.ob_eq
    (by kernel_rfl) (fun s => by kernel_rfl) Hd.run (by kernel_rfl) (by kernel_rfl) (by kernel_rfl) (by rfl) (by first | assumption | decide +kernel) (by decide +kernel) ⟨rfl, rfl, rfl, rfl, rfl, by decide +kernel⟩ ?hw ?hc
  case hw => w_witness2
  case hc =>
    refine L2.WD.walkG (l := PySem.Challenge.rw_willdealt_k16_what_a_whom_is) (n := 63) (k := 11) (x := "_law_script") (CX := L2.WD.CXa (PySem.Challenge.rw_willdealt_k16_what_a_whom_is).prog) rfl (by decide) (by kernel_rfl) ⟨rfl, by decide, by decide⟩ ?F (fun H s u s' h => L2.WD.cxa_no H s u s' h)
    intro w mg fa h Y G hmg0
    obtain ⟨K, KX, c, hex⟩ := Y
    have hmg : mg ("law" : PySem.Str) = some (.ref fa) := by
      have e : (HandSHeadRun.topDef (OpenLaw.row PySem.Challenge.rw_willdealt_k16_what_a_whom_is).prog 72).name = ("law" : PySem.Str) := by kernel_rfl
      rw [← e]
      exact hmg0
    obtain ⟨fd, hb, hF⟩ := Hd.facts (P := (PySem.Challenge.rw_willdealt_k16_what_a_whom_is).prog) (w := w) KX G hmg c hex
    refine ⟨K, fd, L2.WD.spD (Hd.E K mg) 1 Dn.F68, KX, hb, fun H a ns hl _ hS => ?_, hF⟩
    obtain ⟨ρ, q⟩ := math ns hl
    exact L2.WD.law_spD hS q
namespace M
open PySem PySem.Spec PyProof.Rows L2 L2.WD Dn
/-! ### the pool: one number -/
theorem ix00 : ixN 1 0 = some 0 := rfl
theorem fdivD_ok {i j : Int} (h : 0 < j) (h2 : j.natAbs.log2 < 9000) : fdivD (.int i) (.int j) = some (.fz (.int (i / j))) := by
  show (if decide (0 < j ∧ j.natAbs.log2 < 9000) = true then some (Sl.fz (.int (i / j))) else none) = _
  rw [if_pos (decide_eq_true ⟨h, h2⟩)]
theorem modD_ok {i j : Int} (h : 0 < j) : modD (.int i) (.int j) = some (.fz (.int (i % j))) := by
  show (if decide (0 < j) = true then some (Sl.fz (.int (i % j))) else none) = _
  rw [if_pos (decide_eq_true h)]
theorem mulL {i j : Int} (h : i.natAbs < 2 ^ 64) : repD (.int i) (.int j) = some (.fz (.int (i * j))) := by
  show (if mulC i j = true then some (Sl.fz (.int (i * j))) else none) = _
  rw [if_pos (by unfold mulC; rw [decide_eq_true h]; rfl)]
theorem mulR {i j : Int} (h : j.natAbs < 2 ^ 64) : repD (.int i) (.int j) = some (.fz (.int (i * j))) := by
  show (if mulC i j = true then some (Sl.fz (.int (i * j))) else none) = _
  rw [if_pos (by unfold mulC; rw [decide_eq_true h]; simp)]
theorem gtD_int {i j : Int} : gtD (.int i) (.int j) = some (.fz (.bl (decide (j < i)))) := rfl
theorem ltD_int {i j : Int} : ltD (.int i) (.int j) = some (.fz (.bl (decide (i < j)))) := rfl
theorem geD_int {i j : Int} : geD (.int i) (.int j) = some (.fz (.bl (decide (j ≤ i)))) := rfl
theorem leD_int {i j : Int} : leD (.int i) (.int j) = some (.fz (.bl (decide (i ≤ j)))) := rfl
/-- what a pool is: any number -/
def Pq (_ : Int) : Prop := True
theorem take {m : Bool} {p q n : Int} (_ : Pq q) (h0 : 0 < n) (h1 : n < 4294967296) : ∃ p' q' v : Int, F59 [.ow m [.int q], .fz (.int n)] = .ok [.ow m [.int q'], .fz (.int n)] (.fz (.int v)) ∧ Pq q' ∧ 0 ≤ v ∧ v < n := by
  have i0 : ixD (.lst [.int q]) (.int 0) = some (.fz (.int q)) := rfl
  refine ⟨p, q / n, q % n, ?_, trivial, Int.emod_nonneg _ (by omega), Int.emod_lt_of_pos _ h0⟩
  unfold F59 g59
  simp only [bR_ok, bR_exc, bR_bad, kR_ok, bS_ok, bS_exc, bS_bad, nS_nx, nS_rt, nS_exc, nS_bk, nS_ct, nS_bad, gS_nx, lS_nx, lS_ct, lS_bk, lS_rt, lS_exc, fS_rt, fS_nx, fS_exc, hS_nx, hS_rt, hS_exc, pR_ok, pR_exc, oR_some, oR_none, cR_true, cR_false, xS_ok, con_vl, con_sl, conS_nil, conS_cons, loopS_nil, compL_nil, handle_nil, handle_cons, ap_bodyF, takeR_ok, takeR_exc, nmS, coS, vaS, vaA, vdS, vdA, mvS, frS, tsS, blO, ptS, muS, owB, gbS, gbD, flS, tkS, goneS, frz_fz, frz_ow, frz_oo, mine_no, mine_fz, mine_ow, mine_oo, owned_no, owned_fz, owned_ow, owned_oo, flag_no, flag_fz, flag_ow, flag_oo, give, back, argS, ownIx, wb, one, two, intS, blS, itemsD_lst, itemsD_tup, itemsD_scr, itemsD_str, enumD_lst, enumD_tup, numD_nil, numD_cons, truD_bl, truD_non, truD_int, truD_lst, truD_tup, attD, recOf, putFD, ap_gNilD, ap_gTupD, ap_gConsD, List.getElem?_cons_zero, List.getElem?_cons_succ, List.getElem?_nil, List.set_cons_zero, List.set_cons_succ, List.map_cons, List.map_nil, List.length_cons, List.length_nil, List.cons_append, List.nil_append, List.append_nil, List.replicate, List.getD_cons_zero, List.getD_cons_succ, List.getD_nil, List.nodup_nil, ite_true, ite_false, Bool.not_true, Bool.not_false, Bool.false_eq_true, reduceCtorEq, Nat.reduceSub, Nat.reduceAdd, List.nodup_cons, List.not_mem_nil, not_false_eq_true, and_self, and_true, true_and, decide_true, decide_false, List.take_succ_cons, List.take_zero, sizeLine_eq, Nat.zero_le, Nat.reduceLeDiff, Nat.reduceLT, Nat.reduceEqDiff, Bool.true_and, Bool.false_and, Bool.and_true, Bool.and_false, Bool.true_or, Bool.false_or, Bool.or_true, Bool.or_false, cp_bind, cp_pure, cp_bindS, cp_seqS, cp_nmO, cp_cO, cp_frzD, cp_frzO, cp_valO, cp_valD, cp_binX, cp_unX, cp_caX, cp_nilA, cp_consA, cp_nilD, cp_consD, cp_free_eq, cp_setS, cp_retS, cp_exprS, cp_ifS, cp_nxS, cp_retN, cp_mvX, cp_frD, cp_frO, cp_truO, cp_tstB, cp_andT, cp_orT, cp_notT, cp_notX, cp_andO, cp_orO, cp_ifE, cp_chX, cp_noO, cp_ptO, cp_slX, cp_tupX, cp_lstX, cp_dic0X, cp_itX, cp_enX, cp_rg1, cp_gN, cp_asgS, cp_forS, cp_loopS_cons, cp_callX, cp_appF, cp_mkX, cp_fldS, cp_attX, cp_raiseS1, cp_raiseS0, cp_tryS, cp_muX, cp_muN, cp_mtX, cp_hasOw_eq, cp_gSubD, cp_parS, cp_kwX, cp_yesT, cp_compX, cp_compL_cons, i0, divmodW_eq h0 h1, ix00]
theorem cutD_map (ns : List Int) (lo hi : Option Int) : L2.WD.cutD (ns.map D.int) lo hi = (L2.WD.cutD ns lo hi).map D.int := by
  unfold L2.WD.cutD
  rw [List.length_map, ← List.map_drop, ← List.map_take]
theorem cellSum (ns : List Int) (k : Int) : ∃ c : Int, ∀ ρ, caX (one sumD) (consA (frzO (slX (nmO 0) (ptO (nmO 1)) (ptO (frzO (binX addD (nmO 1) (cO (.int 1))))))) nilA) (.fz (.scr ns) :: .fz (.int k) :: ρ) = .ok (.fz (.scr ns) :: .fz (.int k) :: ρ) (.fz (.int c)) := by
  refine ⟨(L2.WD.cutD ns (some k) (some (k + 1))).sum, fun ρ => ?_⟩
  have e1 : slD (some k) (some (k + 1)) (.scr ns) = some (.ow false ((L2.WD.cutD ns (some k) (some (k + 1))).map D.int)) := by
    rw [← cutD_map]; rfl
  have e2 : sumD (.lst ((L2.WD.cutD ns (some k) (some (k + 1))).map D.int)) = some (.fz (.int (L2.WD.cutD ns (some k) (some (k + 1))).sum)) := by
    show (intsD _).bind _ = _
    rw [intsD_map]
    rfl
  simp only [bR_ok, bR_exc, bR_bad, kR_ok, bS_ok, bS_exc, bS_bad, nS_nx, nS_rt, nS_exc, nS_bk, nS_ct, nS_bad, gS_nx, lS_nx, lS_ct, lS_bk, lS_rt, lS_exc, fS_rt, fS_nx, fS_exc, hS_nx, hS_rt, hS_exc, pR_ok, pR_exc, oR_some, oR_none, cR_true, cR_false, xS_ok, con_vl, con_sl, conS_nil, conS_cons, loopS_nil, compL_nil, handle_nil, handle_cons, ap_bodyF, takeR_ok, takeR_exc, nmS, coS, vaS, vaA, vdS, vdA, mvS, frS, tsS, blO, ptS, muS, owB, gbS, gbD, flS, tkS, goneS, frz_fz, frz_ow, frz_oo, mine_no, mine_fz, mine_ow, mine_oo, owned_no, owned_fz, owned_ow, owned_oo, flag_no, flag_fz, flag_ow, flag_oo, give, back, argS, ownIx, wb, one, two, intS, blS, itemsD_lst, itemsD_tup, itemsD_scr, itemsD_str, enumD_lst, enumD_tup, numD_nil, numD_cons, truD_bl, truD_non, truD_int, truD_lst, truD_tup, attD, recOf, putFD, ap_gNilD, ap_gTupD, ap_gConsD, List.getElem?_cons_zero, List.getElem?_cons_succ, List.getElem?_nil, List.set_cons_zero, List.set_cons_succ, List.map_cons, List.map_nil, List.length_cons, List.length_nil, List.cons_append, List.nil_append, List.append_nil, List.replicate, List.getD_cons_zero, List.getD_cons_succ, List.getD_nil, List.nodup_nil, ite_true, ite_false, Bool.not_true, Bool.not_false, Bool.false_eq_true, reduceCtorEq, Nat.reduceSub, Nat.reduceAdd, List.nodup_cons, List.not_mem_nil, not_false_eq_true, and_self, and_true, true_and, decide_true, decide_false, List.take_succ_cons, List.take_zero, sizeLine_eq, Nat.zero_le, Nat.reduceLeDiff, Nat.reduceLT, Nat.reduceEqDiff, Bool.true_and, Bool.false_and, Bool.and_true, Bool.and_false, Bool.true_or, Bool.false_or, Bool.or_true, Bool.or_false, cp_bind, cp_pure, cp_bindS, cp_seqS, cp_nmO, cp_cO, cp_frzD, cp_frzO, cp_valO, cp_valD, cp_binX, cp_unX, cp_caX, cp_nilA, cp_consA, cp_nilD, cp_consD, cp_free_eq, cp_setS, cp_retS, cp_exprS, cp_ifS, cp_nxS, cp_retN, cp_mvX, cp_frD, cp_frO, cp_truO, cp_tstB, cp_andT, cp_orT, cp_notT, cp_notX, cp_andO, cp_orO, cp_ifE, cp_chX, cp_noO, cp_ptO, cp_slX, cp_tupX, cp_lstX, cp_dic0X, cp_itX, cp_enX, cp_rg1, cp_gN, cp_asgS, cp_forS, cp_loopS_cons, cp_callX, cp_appF, cp_mkX, cp_fldS, cp_attX, cp_raiseS1, cp_raiseS0, cp_tryS, cp_muX, cp_muN, cp_mtX, cp_hasOw_eq, cp_gSubD, cp_parS, cp_kwX, cp_yesT, cp_compX, cp_compL_cons, ptS, addD_int, e1, e2]
theorem p18 (ρ : List Sl) : frzO (binX powD (cO (.int 10)) (cO (.int 18))) ρ = .ok ρ (.vl (.int 1000000000000000000)) := by kernel_rfl
theorem p11 (ρ : List Sl) : frzO (binX powD (cO (.int 10)) (cO (.int 11))) ρ = .ok ρ (.vl (.int 100000000000)) := by kernel_rfl
def wideO : Mo Ar := frzO (binX repD (frzO (binX repD (frzO (binX repD (frzO (binX repD (frzO (binX repD (frzO (binX powD (cO (.int 10)) (cO (.int 64)))) (frzO (binX powD (cO (.int 10)) (cO (.int 64)))))) (frzO (binX powD (cO (.int 10)) (cO (.int 64)))))) (frzO (binX powD (cO (.int 10)) (cO (.int 64)))))) (frzO (binX powD (cO (.int 10)) (cO (.int 64)))))) (frzO (binX powD (cO (.int 10)) (cO (.int 64)))))
theorem p384 : ∃ M : Int, 0 < M ∧ ∀ ρ : List Sl, wideO ρ = .ok ρ (.vl (.int M)) :=
  ⟨10 ^ 384, by decide, fun _ => by kernel_rfl⟩
def turnB : So := seqS (setS 3 (binX modD (frzO (binX addD (frzO (binX addD (frzO (binX repD (frzO (binX modD (nmO 3) (cO (.int 999999999989)))) (cO (.int 69621)))) (frzO (binX repD (cO (.int 40503)) (nmO 5))))) (cO (.int 271)))) (cO (.int 999999999989)))) (setS 4 (binX addD (frzO (binX repD (nmO 4) (frzO (binX powD (cO (.int 10)) (cO (.int 11)))))) (frzO (binX modD (frzO (binX repD (nmO 3) (frzO (binX addD (frzO (binX modD (nmO 3) (cO (.int 65537)))) (cO (.int 3)))))) (cO (.int 99999999977))))))
theorem turn_ok {ns : List Int} {kk c : Sl} {more found i : Int} : ∃ more' x : Int, turnB [.fz (.scr ns), kk, c, .fz (.int more), .fz (.int found), .fz (.int i)] = .nx [.fz (.scr ns), kk, c, .fz (.int more'), .fz (.int x), .fz (.int i)] := by
  obtain ⟨q, hq⟩ : ∃ q, q = (more % 999999999989 * 69621 + 40503 * i + 271) % 999999999989 := ⟨_, rfl⟩
  have b1 : 0 ≤ q := by rw [hq]; exact Int.emod_nonneg _ (by decide)
  have b2 : q < 999999999989 := by rw [hq]; exact Int.emod_lt_of_pos _ (by decide)
  refine ⟨q, found * 100000000000 + q * (q % 65537 + 3) % 99999999977, ?_⟩
  unfold turnB
  simp only [bR_ok, bR_exc, bR_bad, kR_ok, bS_ok, bS_exc, bS_bad, nS_nx, nS_rt, nS_exc, nS_bk, nS_ct, nS_bad, gS_nx, lS_nx, lS_ct, lS_bk, lS_rt, lS_exc, fS_rt, fS_nx, fS_exc, hS_nx, hS_rt, hS_exc, pR_ok, pR_exc, oR_some, oR_none, cR_true, cR_false, xS_ok, con_vl, con_sl, conS_nil, conS_cons, loopS_nil, compL_nil, handle_nil, handle_cons, ap_bodyF, takeR_ok, takeR_exc, nmS, coS, vaS, vaA, vdS, vdA, mvS, frS, tsS, blO, ptS, muS, owB, gbS, gbD, flS, tkS, goneS, frz_fz, frz_ow, frz_oo, mine_no, mine_fz, mine_ow, mine_oo, owned_no, owned_fz, owned_ow, owned_oo, flag_no, flag_fz, flag_ow, flag_oo, give, back, argS, ownIx, wb, one, two, intS, blS, itemsD_lst, itemsD_tup, itemsD_scr, itemsD_str, enumD_lst, enumD_tup, numD_nil, numD_cons, truD_bl, truD_non, truD_int, truD_lst, truD_tup, attD, recOf, putFD, ap_gNilD, ap_gTupD, ap_gConsD, List.getElem?_cons_zero, List.getElem?_cons_succ, List.getElem?_nil, List.set_cons_zero, List.set_cons_succ, List.map_cons, List.map_nil, List.length_cons, List.length_nil, List.cons_append, List.nil_append, List.append_nil, List.replicate, List.getD_cons_zero, List.getD_cons_succ, List.getD_nil, List.nodup_nil, ite_true, ite_false, Bool.not_true, Bool.not_false, Bool.false_eq_true, reduceCtorEq, Nat.reduceSub, Nat.reduceAdd, List.nodup_cons, List.not_mem_nil, not_false_eq_true, and_self, and_true, true_and, decide_true, decide_false, List.take_succ_cons, List.take_zero, sizeLine_eq, Nat.zero_le, Nat.reduceLeDiff, Nat.reduceLT, Nat.reduceEqDiff, Bool.true_and, Bool.false_and, Bool.and_true, Bool.and_false, Bool.true_or, Bool.false_or, Bool.or_true, Bool.or_false, cp_bind, cp_pure, cp_bindS, cp_seqS, cp_nmO, cp_cO, cp_frzD, cp_frzO, cp_valO, cp_valD, cp_binX, cp_unX, cp_caX, cp_nilA, cp_consA, cp_nilD, cp_consD, cp_free_eq, cp_setS, cp_retS, cp_exprS, cp_ifS, cp_nxS, cp_retN, cp_mvX, cp_frD, cp_frO, cp_truO, cp_tstB, cp_andT, cp_orT, cp_notT, cp_notX, cp_andO, cp_orO, cp_ifE, cp_chX, cp_noO, cp_ptO, cp_slX, cp_tupX, cp_lstX, cp_dic0X, cp_itX, cp_enX, cp_rg1, cp_gN, cp_asgS, cp_forS, cp_loopS_cons, cp_callX, cp_appF, cp_mkX, cp_fldS, cp_attX, cp_raiseS1, cp_raiseS0, cp_tryS, cp_muX, cp_muN, cp_mtX, cp_hasOw_eq, cp_gSubD, cp_parS, cp_kwX, cp_yesT, cp_compX, cp_compL_cons, modD_ok (show (0 : Int) < 999999999989 by decide), mulR (show (69621 : Int).natAbs < 2 ^ 64 by decide), mulL (show (40503 : Int).natAbs < 2 ^ 64 by decide), addD_int, ← hq, ↓p11, mulR (show (100000000000 : Int).natAbs < 2 ^ 64 by decide), modD_ok (show (0 : Int) < 65537 by decide), mulL (show q.natAbs < 2 ^ 64 by omega), modD_ok (show (0 : Int) < 99999999977 by decide)]
theorem pool_ok (ns : List Int) (kk : Int) (hk : 0 ≤ kk ∧ kk < 100) : ∃ q : Int, F58 [.fz (.scr ns), .fz (.int kk)] = .ok [.fz (.scr ns), .fz (.int kk)] (.ow false [.int q]) ∧ Pq q := by
  obtain ⟨c, hc⟩ := cellSum ns kk
  obtain ⟨M, hM, eM⟩ := p384
  unfold wideO at eM
  obtain ⟨mo, hmo⟩ : ∃ mo, mo = c * 48271 + 977 * kk * kk + 13 := ⟨_, rfl⟩
  have m2 : repD (.int (977 * kk)) (.int kk) = some (.fz (.int (977 * kk * kk))) := mulR (by omega)
  by_cases c1 : c < 0 ∨ 1000000000000000000 ≤ c
  · have t : orT (tstB (binX ltD (nmO 2) (cO (.int 0)))) (tstB (binX geD (nmO 2) (frzO (binX powD (cO (.int 10)) (cO (.int 18)))))) [.fz (.scr ns), .fz (.int kk), .fz (.int c), .no, .no, .no] = .ok [.fz (.scr ns), .fz (.int kk), .fz (.int c), .no, .no, .no] true := by
      by_cases c2 : c < 0
      · simp only [bR_ok, bR_exc, bR_bad, kR_ok, bS_ok, bS_exc, bS_bad, nS_nx, nS_rt, nS_exc, nS_bk, nS_ct, nS_bad, gS_nx, lS_nx, lS_ct, lS_bk, lS_rt, lS_exc, fS_rt, fS_nx, fS_exc, hS_nx, hS_rt, hS_exc, pR_ok, pR_exc, oR_some, oR_none, cR_true, cR_false, xS_ok, con_vl, con_sl, conS_nil, conS_cons, loopS_nil, compL_nil, handle_nil, handle_cons, ap_bodyF, takeR_ok, takeR_exc, nmS, coS, vaS, vaA, vdS, vdA, mvS, frS, tsS, blO, ptS, muS, owB, gbS, gbD, flS, tkS, goneS, frz_fz, frz_ow, frz_oo, mine_no, mine_fz, mine_ow, mine_oo, owned_no, owned_fz, owned_ow, owned_oo, flag_no, flag_fz, flag_ow, flag_oo, give, back, argS, ownIx, wb, one, two, intS, blS, itemsD_lst, itemsD_tup, itemsD_scr, itemsD_str, enumD_lst, enumD_tup, numD_nil, numD_cons, truD_bl, truD_non, truD_int, truD_lst, truD_tup, attD, recOf, putFD, ap_gNilD, ap_gTupD, ap_gConsD, List.getElem?_cons_zero, List.getElem?_cons_succ, List.getElem?_nil, List.set_cons_zero, List.set_cons_succ, List.map_cons, List.map_nil, List.length_cons, List.length_nil, List.cons_append, List.nil_append, List.append_nil, List.replicate, List.getD_cons_zero, List.getD_cons_succ, List.getD_nil, List.nodup_nil, ite_true, ite_false, Bool.not_true, Bool.not_false, Bool.false_eq_true, reduceCtorEq, Nat.reduceSub, Nat.reduceAdd, List.nodup_cons, List.not_mem_nil, not_false_eq_true, and_self, and_true, true_and, decide_true, decide_false, List.take_succ_cons, List.take_zero, sizeLine_eq, Nat.zero_le, Nat.reduceLeDiff, Nat.reduceLT, Nat.reduceEqDiff, Bool.true_and, Bool.false_and, Bool.and_true, Bool.and_false, Bool.true_or, Bool.false_or, Bool.or_true, Bool.or_false, cp_bind, cp_pure, cp_bindS, cp_seqS, cp_nmO, cp_cO, cp_frzD, cp_frzO, cp_valO, cp_valD, cp_binX, cp_unX, cp_caX, cp_nilA, cp_consA, cp_nilD, cp_consD, cp_free_eq, cp_setS, cp_retS, cp_exprS, cp_ifS, cp_nxS, cp_retN, cp_mvX, cp_frD, cp_frO, cp_truO, cp_tstB, cp_andT, cp_orT, cp_notT, cp_notX, cp_andO, cp_orO, cp_ifE, cp_chX, cp_noO, cp_ptO, cp_slX, cp_tupX, cp_lstX, cp_dic0X, cp_itX, cp_enX, cp_rg1, cp_gN, cp_asgS, cp_forS, cp_loopS_cons, cp_callX, cp_appF, cp_mkX, cp_fldS, cp_attX, cp_raiseS1, cp_raiseS0, cp_tryS, cp_muX, cp_muN, cp_mtX, cp_hasOw_eq, cp_gSubD, cp_parS, cp_kwX, cp_yesT, cp_compX, cp_compL_cons, ltD_int, decide_eq_true c2]
      · simp only [bR_ok, bR_exc, bR_bad, kR_ok, bS_ok, bS_exc, bS_bad, nS_nx, nS_rt, nS_exc, nS_bk, nS_ct, nS_bad, gS_nx, lS_nx, lS_ct, lS_bk, lS_rt, lS_exc, fS_rt, fS_nx, fS_exc, hS_nx, hS_rt, hS_exc, pR_ok, pR_exc, oR_some, oR_none, cR_true, cR_false, xS_ok, con_vl, con_sl, conS_nil, conS_cons, loopS_nil, compL_nil, handle_nil, handle_cons, ap_bodyF, takeR_ok, takeR_exc, nmS, coS, vaS, vaA, vdS, vdA, mvS, frS, tsS, blO, ptS, muS, owB, gbS, gbD, flS, tkS, goneS, frz_fz, frz_ow, frz_oo, mine_no, mine_fz, mine_ow, mine_oo, owned_no, owned_fz, owned_ow, owned_oo, flag_no, flag_fz, flag_ow, flag_oo, give, back, argS, ownIx, wb, one, two, intS, blS, itemsD_lst, itemsD_tup, itemsD_scr, itemsD_str, enumD_lst, enumD_tup, numD_nil, numD_cons, truD_bl, truD_non, truD_int, truD_lst, truD_tup, attD, recOf, putFD, ap_gNilD, ap_gTupD, ap_gConsD, List.getElem?_cons_zero, List.getElem?_cons_succ, List.getElem?_nil, List.set_cons_zero, List.set_cons_succ, List.map_cons, List.map_nil, List.length_cons, List.length_nil, List.cons_append, List.nil_append, List.append_nil, List.replicate, List.getD_cons_zero, List.getD_cons_succ, List.getD_nil, List.nodup_nil, ite_true, ite_false, Bool.not_true, Bool.not_false, Bool.false_eq_true, reduceCtorEq, Nat.reduceSub, Nat.reduceAdd, List.nodup_cons, List.not_mem_nil, not_false_eq_true, and_self, and_true, true_and, decide_true, decide_false, List.take_succ_cons, List.take_zero, sizeLine_eq, Nat.zero_le, Nat.reduceLeDiff, Nat.reduceLT, Nat.reduceEqDiff, Bool.true_and, Bool.false_and, Bool.and_true, Bool.and_false, Bool.true_or, Bool.false_or, Bool.or_true, Bool.or_false, cp_bind, cp_pure, cp_bindS, cp_seqS, cp_nmO, cp_cO, cp_frzD, cp_frzO, cp_valO, cp_valD, cp_binX, cp_unX, cp_caX, cp_nilA, cp_consA, cp_nilD, cp_consD, cp_free_eq, cp_setS, cp_retS, cp_exprS, cp_ifS, cp_nxS, cp_retN, cp_mvX, cp_frD, cp_frO, cp_truO, cp_tstB, cp_andT, cp_orT, cp_notT, cp_notX, cp_andO, cp_orO, cp_ifE, cp_chX, cp_noO, cp_ptO, cp_slX, cp_tupX, cp_lstX, cp_dic0X, cp_itX, cp_enX, cp_rg1, cp_gN, cp_asgS, cp_forS, cp_loopS_cons, cp_callX, cp_appF, cp_mkX, cp_fldS, cp_attX, cp_raiseS1, cp_raiseS0, cp_tryS, cp_muX, cp_muN, cp_mtX, cp_hasOw_eq, cp_gSubD, cp_parS, cp_kwX, cp_yesT, cp_compX, cp_compL_cons, ltD_int, decide_eq_false c2, ↓p18, geD_int, decide_eq_true (show (1000000000000000000 : Int) ≤ c by omega)]
    have ab : absD (.int c) = some (.fz (.int (if c < 0 then -c else c))) := rfl
    refine ⟨(if c < 0 then -c else c) % M, ?_, trivial⟩
    unfold F58 g58
    simp only [bR_ok, bR_exc, bR_bad, kR_ok, bS_ok, bS_exc, bS_bad, nS_nx, nS_rt, nS_exc, nS_bk, nS_ct, nS_bad, gS_nx, lS_nx, lS_ct, lS_bk, lS_rt, lS_exc, fS_rt, fS_nx, fS_exc, hS_nx, hS_rt, hS_exc, pR_ok, pR_exc, oR_some, oR_none, cR_true, cR_false, xS_ok, con_vl, con_sl, conS_nil, conS_cons, loopS_nil, compL_nil, handle_nil, handle_cons, ap_bodyF, takeR_ok, takeR_exc, nmS, coS, vaS, vaA, vdS, vdA, mvS, frS, tsS, blO, ptS, muS, owB, gbS, gbD, flS, tkS, goneS, frz_fz, frz_ow, frz_oo, mine_no, mine_fz, mine_ow, mine_oo, owned_no, owned_fz, owned_ow, owned_oo, flag_no, flag_fz, flag_ow, flag_oo, give, back, argS, ownIx, wb, one, two, intS, blS, itemsD_lst, itemsD_tup, itemsD_scr, itemsD_str, enumD_lst, enumD_tup, numD_nil, numD_cons, truD_bl, truD_non, truD_int, truD_lst, truD_tup, attD, recOf, putFD, ap_gNilD, ap_gTupD, ap_gConsD, List.getElem?_cons_zero, List.getElem?_cons_succ, List.getElem?_nil, List.set_cons_zero, List.set_cons_succ, List.map_cons, List.map_nil, List.length_cons, List.length_nil, List.cons_append, List.nil_append, List.append_nil, List.replicate, List.getD_cons_zero, List.getD_cons_succ, List.getD_nil, List.nodup_nil, ite_true, ite_false, Bool.not_true, Bool.not_false, Bool.false_eq_true, reduceCtorEq, Nat.reduceSub, Nat.reduceAdd, List.nodup_cons, List.not_mem_nil, not_false_eq_true, and_self, and_true, true_and, decide_true, decide_false, List.take_succ_cons, List.take_zero, sizeLine_eq, Nat.zero_le, Nat.reduceLeDiff, Nat.reduceLT, Nat.reduceEqDiff, Bool.true_and, Bool.false_and, Bool.and_true, Bool.and_false, Bool.true_or, Bool.false_or, Bool.or_true, Bool.or_false, cp_bind, cp_pure, cp_bindS, cp_seqS, cp_nmO, cp_cO, cp_frzD, cp_frzO, cp_valO, cp_valD, cp_binX, cp_unX, cp_caX, cp_nilA, cp_consA, cp_nilD, cp_consD, cp_free_eq, cp_setS, cp_retS, cp_exprS, cp_ifS, cp_nxS, cp_retN, cp_mvX, cp_frD, cp_frO, cp_truO, cp_tstB, cp_andT, cp_orT, cp_notT, cp_notX, cp_andO, cp_orO, cp_ifE, cp_chX, cp_noO, cp_ptO, cp_slX, cp_tupX, cp_lstX, cp_dic0X, cp_itX, cp_enX, cp_rg1, cp_gN, cp_asgS, cp_forS, cp_loopS_cons, cp_callX, cp_appF, cp_mkX, cp_fldS, cp_attX, cp_raiseS1, cp_raiseS0, cp_tryS, cp_muX, cp_muN, cp_mtX, cp_hasOw_eq, cp_gSubD, cp_parS, cp_kwX, cp_yesT, cp_compX, cp_compL_cons, ↓hc, ↓t, ↓eM, ab, modD_ok hM]
  · have t : orT (tstB (binX ltD (nmO 2) (cO (.int 0)))) (tstB (binX geD (nmO 2) (frzO (binX powD (cO (.int 10)) (cO (.int 18)))))) [.fz (.scr ns), .fz (.int kk), .fz (.int c), .no, .no, .no] = .ok [.fz (.scr ns), .fz (.int kk), .fz (.int c), .no, .no, .no] false := by
      simp only [bR_ok, bR_exc, bR_bad, kR_ok, bS_ok, bS_exc, bS_bad, nS_nx, nS_rt, nS_exc, nS_bk, nS_ct, nS_bad, gS_nx, lS_nx, lS_ct, lS_bk, lS_rt, lS_exc, fS_rt, fS_nx, fS_exc, hS_nx, hS_rt, hS_exc, pR_ok, pR_exc, oR_some, oR_none, cR_true, cR_false, xS_ok, con_vl, con_sl, conS_nil, conS_cons, loopS_nil, compL_nil, handle_nil, handle_cons, ap_bodyF, takeR_ok, takeR_exc, nmS, coS, vaS, vaA, vdS, vdA, mvS, frS, tsS, blO, ptS, muS, owB, gbS, gbD, flS, tkS, goneS, frz_fz, frz_ow, frz_oo, mine_no, mine_fz, mine_ow, mine_oo, owned_no, owned_fz, owned_ow, owned_oo, flag_no, flag_fz, flag_ow, flag_oo, give, back, argS, ownIx, wb, one, two, intS, blS, itemsD_lst, itemsD_tup, itemsD_scr, itemsD_str, enumD_lst, enumD_tup, numD_nil, numD_cons, truD_bl, truD_non, truD_int, truD_lst, truD_tup, attD, recOf, putFD, ap_gNilD, ap_gTupD, ap_gConsD, List.getElem?_cons_zero, List.getElem?_cons_succ, List.getElem?_nil, List.set_cons_zero, List.set_cons_succ, List.map_cons, List.map_nil, List.length_cons, List.length_nil, List.cons_append, List.nil_append, List.append_nil, List.replicate, List.getD_cons_zero, List.getD_cons_succ, List.getD_nil, List.nodup_nil, ite_true, ite_false, Bool.not_true, Bool.not_false, Bool.false_eq_true, reduceCtorEq, Nat.reduceSub, Nat.reduceAdd, List.nodup_cons, List.not_mem_nil, not_false_eq_true, and_self, and_true, true_and, decide_true, decide_false, List.take_succ_cons, List.take_zero, sizeLine_eq, Nat.zero_le, Nat.reduceLeDiff, Nat.reduceLT, Nat.reduceEqDiff, Bool.true_and, Bool.false_and, Bool.and_true, Bool.and_false, Bool.true_or, Bool.false_or, Bool.or_true, Bool.or_false, cp_bind, cp_pure, cp_bindS, cp_seqS, cp_nmO, cp_cO, cp_frzD, cp_frzO, cp_valO, cp_valD, cp_binX, cp_unX, cp_caX, cp_nilA, cp_consA, cp_nilD, cp_consD, cp_free_eq, cp_setS, cp_retS, cp_exprS, cp_ifS, cp_nxS, cp_retN, cp_mvX, cp_frD, cp_frO, cp_truO, cp_tstB, cp_andT, cp_orT, cp_notT, cp_notX, cp_andO, cp_orO, cp_ifE, cp_chX, cp_noO, cp_ptO, cp_slX, cp_tupX, cp_lstX, cp_dic0X, cp_itX, cp_enX, cp_rg1, cp_gN, cp_asgS, cp_forS, cp_loopS_cons, cp_callX, cp_appF, cp_mkX, cp_fldS, cp_attX, cp_raiseS1, cp_raiseS0, cp_tryS, cp_muX, cp_muN, cp_mtX, cp_hasOw_eq, cp_gSubD, cp_parS, cp_kwX, cp_yesT, cp_compX, cp_compL_cons, ltD_int, decide_eq_false (show ¬ c < 0 by omega), ↓p18, geD_int, decide_eq_false (show ¬ (1000000000000000000 : Int) ≤ c by omega)]
    obtain ⟨ρ', el, more, found, tt, h1, h2⟩ := loopS_inv (t := gN 5) (body := turnB) (fun _ ρ => ∃ (more found : Int) (t : Sl), ρ = [.fz (.scr ns), .fz (.int kk), .fz (.int c), .fz (.int more), .fz (.int found), t] ∧ t.mine = false) (rngD 0 27) 0 [.fz (.scr ns), .fz (.int kk), .fz (.int c), .fz (.int mo), .fz (.int 0), .no] ⟨_, _, _, rfl, rfl⟩ (fun j d ρ hj hi => by
      obtain ⟨more, found, t, rfl, ht⟩ := hi
      obtain ⟨i, rfl, i0, i1⟩ := mem_rngD (List.mem_of_getElem? hj)
      obtain ⟨more', x, e⟩ := turn_ok (ns := ns) (kk := .fz (.int kk)) (c := .fz (.int c)) (more := more) (found := found) (i := i)
      refine ⟨[.fz (.scr ns), .fz (.int kk), .fz (.int c), .fz (.int more), .fz (.int found), .fz (.int i)], _, ?_, .inl e, _, _, _, rfl, rfl⟩
      simp only [bR_ok, bR_exc, bR_bad, kR_ok, bS_ok, bS_exc, bS_bad, nS_nx, nS_rt, nS_exc, nS_bk, nS_ct, nS_bad, gS_nx, lS_nx, lS_ct, lS_bk, lS_rt, lS_exc, fS_rt, fS_nx, fS_exc, hS_nx, hS_rt, hS_exc, pR_ok, pR_exc, oR_some, oR_none, cR_true, cR_false, xS_ok, con_vl, con_sl, conS_nil, conS_cons, loopS_nil, compL_nil, handle_nil, handle_cons, ap_bodyF, takeR_ok, takeR_exc, nmS, coS, vaS, vaA, vdS, vdA, mvS, frS, tsS, blO, ptS, muS, owB, gbS, gbD, flS, tkS, goneS, frz_fz, frz_ow, frz_oo, mine_no, mine_fz, mine_ow, mine_oo, owned_no, owned_fz, owned_ow, owned_oo, flag_no, flag_fz, flag_ow, flag_oo, give, back, argS, ownIx, wb, one, two, intS, blS, itemsD_lst, itemsD_tup, itemsD_scr, itemsD_str, enumD_lst, enumD_tup, numD_nil, numD_cons, truD_bl, truD_non, truD_int, truD_lst, truD_tup, attD, recOf, putFD, ap_gNilD, ap_gTupD, ap_gConsD, List.getElem?_cons_zero, List.getElem?_cons_succ, List.getElem?_nil, List.set_cons_zero, List.set_cons_succ, List.map_cons, List.map_nil, List.length_cons, List.length_nil, List.cons_append, List.nil_append, List.append_nil, List.replicate, List.getD_cons_zero, List.getD_cons_succ, List.getD_nil, List.nodup_nil, ite_true, ite_false, Bool.not_true, Bool.not_false, Bool.false_eq_true, reduceCtorEq, Nat.reduceSub, Nat.reduceAdd, List.nodup_cons, List.not_mem_nil, not_false_eq_true, and_self, and_true, true_and, decide_true, decide_false, List.take_succ_cons, List.take_zero, sizeLine_eq, Nat.zero_le, Nat.reduceLeDiff, Nat.reduceLT, Nat.reduceEqDiff, Bool.true_and, Bool.false_and, Bool.and_true, Bool.and_false, Bool.true_or, Bool.false_or, Bool.or_true, Bool.or_false, cp_bind, cp_pure, cp_bindS, cp_seqS, cp_nmO, cp_cO, cp_frzD, cp_frzO, cp_valO, cp_valD, cp_binX, cp_unX, cp_caX, cp_nilA, cp_consA, cp_nilD, cp_consD, cp_free_eq, cp_setS, cp_retS, cp_exprS, cp_ifS, cp_nxS, cp_retN, cp_mvX, cp_frD, cp_frO, cp_truO, cp_tstB, cp_andT, cp_orT, cp_notT, cp_notX, cp_andO, cp_orO, cp_ifE, cp_chX, cp_noO, cp_ptO, cp_slX, cp_tupX, cp_lstX, cp_dic0X, cp_itX, cp_enX, cp_rg1, cp_gN, cp_asgS, cp_forS, cp_loopS_cons, cp_callX, cp_appF, cp_mkX, cp_fldS, cp_attX, cp_raiseS1, cp_raiseS0, cp_tryS, cp_muX, cp_muN, cp_mtX, cp_hasOw_eq, cp_gSubD, cp_parS, cp_kwX, cp_yesT, cp_compX, cp_compL_cons, ht])
    refine ⟨found, ?_, trivial⟩
    have er : ∀ ρ, rgS ρ (.int 27) = .ok ρ (rngD 0 27) := fun ρ => rgS_nat (ρ := ρ) (n := 27) (by decide)
    subst h1
    unfold turnB at el
    unfold F58 g58
    simp only [bR_ok, bR_exc, bR_bad, kR_ok, bS_ok, bS_exc, bS_bad, nS_nx, nS_rt, nS_exc, nS_bk, nS_ct, nS_bad, gS_nx, lS_nx, lS_ct, lS_bk, lS_rt, lS_exc, fS_rt, fS_nx, fS_exc, hS_nx, hS_rt, hS_exc, pR_ok, pR_exc, oR_some, oR_none, cR_true, cR_false, xS_ok, con_vl, con_sl, conS_nil, conS_cons, loopS_nil, compL_nil, handle_nil, handle_cons, ap_bodyF, takeR_ok, takeR_exc, nmS, coS, vaS, vaA, vdS, vdA, mvS, frS, tsS, blO, ptS, muS, owB, gbS, gbD, flS, tkS, goneS, frz_fz, frz_ow, frz_oo, mine_no, mine_fz, mine_ow, mine_oo, owned_no, owned_fz, owned_ow, owned_oo, flag_no, flag_fz, flag_ow, flag_oo, give, back, argS, ownIx, wb, one, two, intS, blS, itemsD_lst, itemsD_tup, itemsD_scr, itemsD_str, enumD_lst, enumD_tup, numD_nil, numD_cons, truD_bl, truD_non, truD_int, truD_lst, truD_tup, attD, recOf, putFD, ap_gNilD, ap_gTupD, ap_gConsD, List.getElem?_cons_zero, List.getElem?_cons_succ, List.getElem?_nil, List.set_cons_zero, List.set_cons_succ, List.map_cons, List.map_nil, List.length_cons, List.length_nil, List.cons_append, List.nil_append, List.append_nil, List.replicate, List.getD_cons_zero, List.getD_cons_succ, List.getD_nil, List.nodup_nil, ite_true, ite_false, Bool.not_true, Bool.not_false, Bool.false_eq_true, reduceCtorEq, Nat.reduceSub, Nat.reduceAdd, List.nodup_cons, List.not_mem_nil, not_false_eq_true, and_self, and_true, true_and, decide_true, decide_false, List.take_succ_cons, List.take_zero, sizeLine_eq, Nat.zero_le, Nat.reduceLeDiff, Nat.reduceLT, Nat.reduceEqDiff, Bool.true_and, Bool.false_and, Bool.and_true, Bool.and_false, Bool.true_or, Bool.false_or, Bool.or_true, Bool.or_false, cp_bind, cp_pure, cp_bindS, cp_seqS, cp_nmO, cp_cO, cp_frzD, cp_frzO, cp_valO, cp_valD, cp_binX, cp_unX, cp_caX, cp_nilA, cp_consA, cp_nilD, cp_consD, cp_free_eq, cp_setS, cp_retS, cp_exprS, cp_ifS, cp_nxS, cp_retN, cp_mvX, cp_frD, cp_frO, cp_truO, cp_tstB, cp_andT, cp_orT, cp_notT, cp_notX, cp_andO, cp_orO, cp_ifE, cp_chX, cp_noO, cp_ptO, cp_slX, cp_tupX, cp_lstX, cp_dic0X, cp_itX, cp_enX, cp_rg1, cp_gN, cp_asgS, cp_forS, cp_loopS_cons, cp_callX, cp_appF, cp_mkX, cp_fldS, cp_attX, cp_raiseS1, cp_raiseS0, cp_tryS, cp_muX, cp_muN, cp_mtX, cp_hasOw_eq, cp_gSubD, cp_parS, cp_kwX, cp_yesT, cp_compX, cp_compL_cons, ↓hc, mulR (show (48271 : Int).natAbs < 2 ^ 64 by decide), mulL (show (977 : Int).natAbs < 2 ^ 64 by decide), m2, addD_int, ← hmo, ↓t, ↓er, ↓el]
/-! ### names -/
def wordsV : List V := [.str "all", .str "and", .str "children", .str "childless", .str "crown", .str "else", .str "if", .str "lives", .str "not", .str "of", .str "or", .str "stock", .str "to"]
def abc : Str := "abcdefghijklmnopqrstuvwxyz"
def signs (z : Str) : List D := z.cps.toList.map fun c => .str ⟨#[c]⟩
def inAbc : D → D
  | .str a => .bl (match a.cps.toList with
    | [c] => decide (c ∈ abc.cps.toList)
    | _ => false)
  | d => d
def nameB (z : Str) : Bool := if (decide ((1 : Int) ≤ z.length) && decide ((z.length : Int) ≤ 8)) = true ∧ inV (.str z) wordsV = false then (z.cps.toList.map fun c => decide (c ∈ abc.cps.toList)).all id else false
theorem signs_abc (z : Str) : (signs z).map inAbc = (z.cps.toList.map fun c => decide (c ∈ abc.cps.toList)).map D.bl := by
  unfold signs
  rw [List.map_map, List.map_map]
  apply List.map_congr_left
  intro c _
  rfl
theorem chLen {ρ : List Sl} {z : Str} (i : Nat) (hz : z.length ≤ 1000) (h : ρ[i]? = some (.fz (.str z))) : chX leD leD (cO (.int 1)) (frzO (caX (one lenD) (consA (nmO i) nilA))) (cO (.int 8)) ρ = .ok ρ (.fz (.bl (decide ((1 : Int) ≤ z.length) && decide ((z.length : Int) ≤ 8)))) := by
  have e1 : caX (one lenD) (consA (nmO i) nilA) ρ = .ok ρ (.fz (.int z.length)) := by
    rw [ap_caX, ap_consA, ap_nmO, h]
    simp only [oR_some, nmS, bR_ok, ap_nilA, conS_cons, con_sl, h, coS, conS_nil, one, lenD_str hz]
  rw [ap_chX, ap_cO, bR_ok, ap_frzO, e1]
  simp only [bR_ok, frz_fz, oR_some, con_vl]
  by_cases c : (1 : Int) ≤ z.length
  · have : leD (.int 1) (.int z.length) = some (.fz (.bl true)) := by
      show some (Sl.fz (.bl (decide ((1 : Int) ≤ z.length)))) = _
      rw [decide_eq_true c]
    rw [this]
    simp only [oR_some, blO, cR_true, ap_cO, bR_ok, con_vl, decide_eq_true c, Bool.true_and]
    try rfl
  · have : leD (.int 1) (.int z.length) = some (.fz (.bl false)) := by
      show some (Sl.fz (.bl (decide ((1 : Int) ≤ z.length)))) = _
      rw [decide_eq_false c]
    rw [this]
    simp only [oR_some, blO, cR_false, decide_eq_false c, Bool.false_and]
theorem comp_abc {ρ : List Sl} {z : Str} (j i : Nat) (hz : z.length ≤ 1000) (h : frD j ρ = .ok ρ (.str z)) (hp : ∀ d : D, gN i d (wipeD ρ [i]) = .nx (ρ.set i (.fz d))) (hp2 : [i].all (plainSl ρ) = true) (h3 : ∀ d : D, (ρ.set i (.fz d))[i]? = some (.fz d)) (h4 : ∀ d : D, mixD ρ (ρ.set i (.fz d)) [i] = ρ) :
    compX [i] (itX (frD j)) (gN i) yesT (frzD (binX (inD false) (nmO i) (cO (.str "abcdefghijklmnopqrstuvwxyz")))) ρ = .ok ρ (.ow false ((z.cps.toList.map fun c => decide (c ∈ abc.cps.toList)).map D.bl)) := by
  rw [← signs_abc]
  refine compX_map (ds := signs z) inAbc (by rw [ap_itX, h]; rfl) ?_ hp2 fun d hd => ?_
  · show (List.map _ _).length < _
    rw [List.length_map, len_toList]
    exact Nat.lt_of_le_of_lt hz (by decide)
  · obtain ⟨c, hc, rfl⟩ := List.mem_map.mp hd
    refine ⟨_, _, hp _, ?_, h4 (.str ⟨#[c]⟩)⟩
    rw [ap_frzD, ap_binX, ap_nmO, h3]
    simp only [oR_some, nmS, bR_ok, ap_cO, con_sl, h3, coS, con_vl]
    try rfl
theorem allD_bl (bs : List Bool) : allD (fun bs => bs.all id) (.lst (bs.map D.bl)) = some (.fz (.bl (bs.all id))) := by
  show (blsD (bs.map D.bl)).bind _ = _
  rw [blsD_map]
  rfl
theorem isn (z : Str) (hz : z.length ≤ 1000) : F10 [.fz (.str z)] = .ok [.fz (.str z)] (.fz (.bl (nameB z))) := by
  have e1 : caX isiF (consA (nmO 0) (consA (cO (.ty "str")) nilA)) [.fz (.str z), .no] = .ok [.fz (.str z), .no] (.fz (.bl true)) := by kernel_rfl
  have e2 := chLen (ρ := [.fz (.str z), .no]) 0 hz rfl
  have e3 : binX (inD false) (nmO 0) (cO c_WORDS) [.fz (.str z), .no] = .ok [.fz (.str z), .no] (.fz (.bl (inV (.str z) wordsV))) := by kernel_rfl
  have e4 := comp_abc (ρ := [.fz (.str z), .no]) 0 1 hz rfl (fun _ => rfl) rfl (fun _ => rfl) (fun _ => rfl)
  unfold F10 g10 nameB
  by_cases c : (decide ((1 : Int) ≤ z.length) && decide ((z.length : Int) ≤ 8)) = true
  · rw [c] at e2
    cases q : inV (.str z) wordsV with
    | true =>
      rw [q] at e3
      simp only [↓e1, ↓e2, ↓e3, c, bR_ok, bR_exc, bR_bad, kR_ok, bS_ok, bS_exc, bS_bad, nS_nx, nS_rt, nS_exc, nS_bk, nS_ct, nS_bad, gS_nx, lS_nx, lS_ct, lS_bk, lS_rt, lS_exc, fS_rt, fS_nx, fS_exc, hS_nx, hS_rt, hS_exc, pR_ok, pR_exc, oR_some, oR_none, cR_true, cR_false, xS_ok, con_vl, con_sl, conS_nil, conS_cons, loopS_nil, compL_nil, handle_nil, handle_cons, ap_bodyF, takeR_ok, takeR_exc, nmS, coS, vaS, vaA, vdS, vdA, mvS, frS, tsS, blO, ptS, muS, owB, gbS, gbD, flS, tkS, goneS, frz_fz, frz_ow, frz_oo, mine_no, mine_fz, mine_ow, mine_oo, owned_no, owned_fz, owned_ow, owned_oo, flag_no, flag_fz, flag_ow, flag_oo, give, back, argS, ownIx, wb, one, two, intS, blS, itemsD_lst, itemsD_tup, itemsD_scr, itemsD_str, enumD_lst, enumD_tup, numD_nil, numD_cons, truD_bl, truD_non, truD_int, truD_lst, truD_tup, attD, recOf, putFD, ap_gNilD, ap_gTupD, ap_gConsD, List.getElem?_cons_zero, List.getElem?_cons_succ, List.getElem?_nil, List.set_cons_zero, List.set_cons_succ, List.map_cons, List.map_nil, List.length_cons, List.length_nil, List.cons_append, List.nil_append, List.append_nil, List.replicate, List.getD_cons_zero, List.getD_cons_succ, List.getD_nil, List.nodup_nil, ite_true, ite_false, Bool.not_true, Bool.not_false, Bool.false_eq_true, reduceCtorEq, Nat.reduceSub, Nat.reduceAdd, List.nodup_cons, List.not_mem_nil, not_false_eq_true, and_self, and_true, true_and, decide_true, decide_false, List.take_succ_cons, List.take_zero, sizeLine_eq, Nat.zero_le, Nat.reduceLeDiff, Nat.reduceLT, Nat.reduceEqDiff, Bool.true_and, Bool.false_and, Bool.and_true, Bool.and_false, Bool.true_or, Bool.false_or, Bool.or_true, Bool.or_false, cp_bind, cp_pure, cp_bindS, cp_seqS, cp_nmO, cp_cO, cp_frzD, cp_frzO, cp_valO, cp_valD, cp_binX, cp_unX, cp_caX, cp_nilA, cp_consA, cp_nilD, cp_consD, cp_free_eq, cp_setS, cp_retS, cp_exprS, cp_ifS, cp_nxS, cp_retN, cp_mvX, cp_frD, cp_frO, cp_truO, cp_tstB, cp_andT, cp_orT, cp_notT, cp_notX, cp_andO, cp_orO, cp_ifE, cp_chX, cp_noO, cp_ptO, cp_slX, cp_tupX, cp_lstX, cp_dic0X, cp_itX, cp_enX, cp_rg1, cp_gN, cp_asgS, cp_forS, cp_loopS_cons, cp_callX, cp_appF, cp_mkX, cp_fldS, cp_attX, cp_raiseS1, cp_raiseS0, cp_tryS, cp_muX, cp_muN, cp_mtX, cp_hasOw_eq, cp_gSubD, cp_parS, cp_kwX, cp_yesT, cp_compX, cp_compL_cons]
      try rfl
    | false =>
      rw [q] at e3
      simp only [↓e1, ↓e2, ↓e3, ↓e4, c, bR_ok, bR_exc, bR_bad, kR_ok, bS_ok, bS_exc, bS_bad, nS_nx, nS_rt, nS_exc, nS_bk, nS_ct, nS_bad, gS_nx, lS_nx, lS_ct, lS_bk, lS_rt, lS_exc, fS_rt, fS_nx, fS_exc, hS_nx, hS_rt, hS_exc, pR_ok, pR_exc, oR_some, oR_none, cR_true, cR_false, xS_ok, con_vl, con_sl, conS_nil, conS_cons, loopS_nil, compL_nil, handle_nil, handle_cons, ap_bodyF, takeR_ok, takeR_exc, nmS, coS, vaS, vaA, vdS, vdA, mvS, frS, tsS, blO, ptS, muS, owB, gbS, gbD, flS, tkS, goneS, frz_fz, frz_ow, frz_oo, mine_no, mine_fz, mine_ow, mine_oo, owned_no, owned_fz, owned_ow, owned_oo, flag_no, flag_fz, flag_ow, flag_oo, give, back, argS, ownIx, wb, one, two, intS, blS, itemsD_lst, itemsD_tup, itemsD_scr, itemsD_str, enumD_lst, enumD_tup, numD_nil, numD_cons, truD_bl, truD_non, truD_int, truD_lst, truD_tup, attD, recOf, putFD, ap_gNilD, ap_gTupD, ap_gConsD, List.getElem?_cons_zero, List.getElem?_cons_succ, List.getElem?_nil, List.set_cons_zero, List.set_cons_succ, List.map_cons, List.map_nil, List.length_cons, List.length_nil, List.cons_append, List.nil_append, List.append_nil, List.replicate, List.getD_cons_zero, List.getD_cons_succ, List.getD_nil, List.nodup_nil, ite_true, ite_false, Bool.not_true, Bool.not_false, Bool.false_eq_true, reduceCtorEq, Nat.reduceSub, Nat.reduceAdd, List.nodup_cons, List.not_mem_nil, not_false_eq_true, and_self, and_true, true_and, decide_true, decide_false, List.take_succ_cons, List.take_zero, sizeLine_eq, Nat.zero_le, Nat.reduceLeDiff, Nat.reduceLT, Nat.reduceEqDiff, Bool.true_and, Bool.false_and, Bool.and_true, Bool.and_false, Bool.true_or, Bool.false_or, Bool.or_true, Bool.or_false, cp_bind, cp_pure, cp_bindS, cp_seqS, cp_nmO, cp_cO, cp_frzD, cp_frzO, cp_valO, cp_valD, cp_binX, cp_unX, cp_caX, cp_nilA, cp_consA, cp_nilD, cp_consD, cp_free_eq, cp_setS, cp_retS, cp_exprS, cp_ifS, cp_nxS, cp_retN, cp_mvX, cp_frD, cp_frO, cp_truO, cp_tstB, cp_andT, cp_orT, cp_notT, cp_notX, cp_andO, cp_orO, cp_ifE, cp_chX, cp_noO, cp_ptO, cp_slX, cp_tupX, cp_lstX, cp_dic0X, cp_itX, cp_enX, cp_rg1, cp_gN, cp_asgS, cp_forS, cp_loopS_cons, cp_callX, cp_appF, cp_mkX, cp_fldS, cp_attX, cp_raiseS1, cp_raiseS0, cp_tryS, cp_muX, cp_muN, cp_mtX, cp_hasOw_eq, cp_gSubD, cp_parS, cp_kwX, cp_yesT, cp_compX, cp_compL_cons, allD_bl, and_self, if_true]
      try rfl
  · rw [Bool.not_eq_true] at c
    rw [c] at e2
    simp only [↓e1, ↓e2, c, bR_ok, bR_exc, bR_bad, kR_ok, bS_ok, bS_exc, bS_bad, nS_nx, nS_rt, nS_exc, nS_bk, nS_ct, nS_bad, gS_nx, lS_nx, lS_ct, lS_bk, lS_rt, lS_exc, fS_rt, fS_nx, fS_exc, hS_nx, hS_rt, hS_exc, pR_ok, pR_exc, oR_some, oR_none, cR_true, cR_false, xS_ok, con_vl, con_sl, conS_nil, conS_cons, loopS_nil, compL_nil, handle_nil, handle_cons, ap_bodyF, takeR_ok, takeR_exc, nmS, coS, vaS, vaA, vdS, vdA, mvS, frS, tsS, blO, ptS, muS, owB, gbS, gbD, flS, tkS, goneS, frz_fz, frz_ow, frz_oo, mine_no, mine_fz, mine_ow, mine_oo, owned_no, owned_fz, owned_ow, owned_oo, flag_no, flag_fz, flag_ow, flag_oo, give, back, argS, ownIx, wb, one, two, intS, blS, itemsD_lst, itemsD_tup, itemsD_scr, itemsD_str, enumD_lst, enumD_tup, numD_nil, numD_cons, truD_bl, truD_non, truD_int, truD_lst, truD_tup, attD, recOf, putFD, ap_gNilD, ap_gTupD, ap_gConsD, List.getElem?_cons_zero, List.getElem?_cons_succ, List.getElem?_nil, List.set_cons_zero, List.set_cons_succ, List.map_cons, List.map_nil, List.length_cons, List.length_nil, List.cons_append, List.nil_append, List.append_nil, List.replicate, List.getD_cons_zero, List.getD_cons_succ, List.getD_nil, List.nodup_nil, ite_true, ite_false, Bool.not_true, Bool.not_false, Bool.false_eq_true, reduceCtorEq, Nat.reduceSub, Nat.reduceAdd, List.nodup_cons, List.not_mem_nil, not_false_eq_true, and_self, and_true, true_and, decide_true, decide_false, List.take_succ_cons, List.take_zero, sizeLine_eq, Nat.zero_le, Nat.reduceLeDiff, Nat.reduceLT, Nat.reduceEqDiff, Bool.true_and, Bool.false_and, Bool.and_true, Bool.and_false, Bool.true_or, Bool.false_or, Bool.or_true, Bool.or_false, cp_bind, cp_pure, cp_bindS, cp_seqS, cp_nmO, cp_cO, cp_frzD, cp_frzO, cp_valO, cp_valD, cp_binX, cp_unX, cp_caX, cp_nilA, cp_consA, cp_nilD, cp_consD, cp_free_eq, cp_setS, cp_retS, cp_exprS, cp_ifS, cp_nxS, cp_retN, cp_mvX, cp_frD, cp_frO, cp_truO, cp_tstB, cp_andT, cp_orT, cp_notT, cp_notX, cp_andO, cp_orO, cp_ifE, cp_chX, cp_noO, cp_ptO, cp_slX, cp_tupX, cp_lstX, cp_dic0X, cp_itX, cp_enX, cp_rg1, cp_gN, cp_asgS, cp_forS, cp_loopS_cons, cp_callX, cp_appF, cp_mkX, cp_fldS, cp_attX, cp_raiseS1, cp_raiseS0, cp_tryS, cp_muX, cp_muN, cp_mtX, cp_hasOw_eq, cp_gSubD, cp_parS, cp_kwX, cp_yesT, cp_compX, cp_compL_cons]
    try rfl
def nmP : D → Bool
  | .str z => nameB z
  | _ => false
theorem isnP {d : D} (h : PD 1000 d) : F10 [.fz d] = .ok [.fz d] (.fz (.bl (nmP d))) := by
  cases h with
  | str k => exact isn _ k
  | _ => kernel_rfl
def dayP : D → Bool
  | .int i => decide (-9999 ≤ i) && decide (i ≤ 9999)
  | _ => false
theorem whole (i : Int) : F8 [.fz (.int i)] = .ok [.fz (.int i)] (.fz (.bl true)) := by kernel_rfl
theorem between (i a b : Int) : F9 [.fz (.int i), .fz (.int a), .fz (.int b)] = .ok [.fz (.int i), .fz (.int a), .fz (.int b)] (.fz (.bl (decide (a ≤ i) && decide (i ≤ b)))) := by
  have e := chInt (ρ := [.fz (.int i), .fz (.int a), .fz (.int b)]) (fa := nmO 1) (fb := nmO 0) (fc := nmO 2) (a := a) (b := i) (c := b)
  have e : chX leD leD (nmO 1) (nmO 0) (nmO 2) [.fz (.int i), .fz (.int a), .fz (.int b)] = .ok [.fz (.int i), .fz (.int a), .fz (.int b)] (.fz (.bl (decide (a ≤ i) && decide (i ≤ b)))) := by
    simp only [bR_ok, bR_exc, bR_bad, kR_ok, bS_ok, bS_exc, bS_bad, nS_nx, nS_rt, nS_exc, nS_bk, nS_ct, nS_bad, gS_nx, lS_nx, lS_ct, lS_bk, lS_rt, lS_exc, fS_rt, fS_nx, fS_exc, hS_nx, hS_rt, hS_exc, pR_ok, pR_exc, oR_some, oR_none, cR_true, cR_false, xS_ok, con_vl, con_sl, conS_nil, conS_cons, loopS_nil, compL_nil, handle_nil, handle_cons, ap_bodyF, takeR_ok, takeR_exc, nmS, coS, vaS, vaA, vdS, vdA, mvS, frS, tsS, blO, ptS, muS, owB, gbS, gbD, flS, tkS, goneS, frz_fz, frz_ow, frz_oo, mine_no, mine_fz, mine_ow, mine_oo, owned_no, owned_fz, owned_ow, owned_oo, flag_no, flag_fz, flag_ow, flag_oo, give, back, argS, ownIx, wb, one, two, intS, blS, itemsD_lst, itemsD_tup, itemsD_scr, itemsD_str, enumD_lst, enumD_tup, numD_nil, numD_cons, truD_bl, truD_non, truD_int, truD_lst, truD_tup, attD, recOf, putFD, ap_gNilD, ap_gTupD, ap_gConsD, List.getElem?_cons_zero, List.getElem?_cons_succ, List.getElem?_nil, List.set_cons_zero, List.set_cons_succ, List.map_cons, List.map_nil, List.length_cons, List.length_nil, List.cons_append, List.nil_append, List.append_nil, List.replicate, List.getD_cons_zero, List.getD_cons_succ, List.getD_nil, List.nodup_nil, ite_true, ite_false, Bool.not_true, Bool.not_false, Bool.false_eq_true, reduceCtorEq, Nat.reduceSub, Nat.reduceAdd, List.nodup_cons, List.not_mem_nil, not_false_eq_true, and_self, and_true, true_and, decide_true, decide_false, List.take_succ_cons, List.take_zero, sizeLine_eq, Nat.zero_le, Nat.reduceLeDiff, Nat.reduceLT, Nat.reduceEqDiff, Bool.true_and, Bool.false_and, Bool.and_true, Bool.and_false, Bool.true_or, Bool.false_or, Bool.or_true, Bool.or_false, cp_bind, cp_pure, cp_bindS, cp_seqS, cp_nmO, cp_cO, cp_frzD, cp_frzO, cp_valO, cp_valD, cp_binX, cp_unX, cp_caX, cp_nilA, cp_consA, cp_nilD, cp_consD, cp_free_eq, cp_setS, cp_retS, cp_exprS, cp_ifS, cp_nxS, cp_retN, cp_mvX, cp_frD, cp_frO, cp_truO, cp_tstB, cp_andT, cp_orT, cp_notT, cp_notX, cp_andO, cp_orO, cp_ifE, cp_chX, cp_noO, cp_ptO, cp_slX, cp_tupX, cp_lstX, cp_dic0X, cp_itX, cp_enX, cp_rg1, cp_gN, cp_asgS, cp_forS, cp_loopS_cons, cp_callX, cp_appF, cp_mkX, cp_fldS, cp_attX, cp_raiseS1, cp_raiseS0, cp_tryS, cp_muX, cp_muN, cp_mtX, cp_hasOw_eq, cp_gSubD, cp_parS, cp_kwX, cp_yesT, cp_compX, cp_compL_cons, leD_int]
    cases q : decide (a ≤ i) with
    | true => simp only [bR_ok, bR_exc, bR_bad, kR_ok, bS_ok, bS_exc, bS_bad, nS_nx, nS_rt, nS_exc, nS_bk, nS_ct, nS_bad, gS_nx, lS_nx, lS_ct, lS_bk, lS_rt, lS_exc, fS_rt, fS_nx, fS_exc, hS_nx, hS_rt, hS_exc, pR_ok, pR_exc, oR_some, oR_none, cR_true, cR_false, xS_ok, con_vl, con_sl, conS_nil, conS_cons, loopS_nil, compL_nil, handle_nil, handle_cons, ap_bodyF, takeR_ok, takeR_exc, nmS, coS, vaS, vaA, vdS, vdA, mvS, frS, tsS, blO, ptS, muS, owB, gbS, gbD, flS, tkS, goneS, frz_fz, frz_ow, frz_oo, mine_no, mine_fz, mine_ow, mine_oo, owned_no, owned_fz, owned_ow, owned_oo, flag_no, flag_fz, flag_ow, flag_oo, give, back, argS, ownIx, wb, one, two, intS, blS, itemsD_lst, itemsD_tup, itemsD_scr, itemsD_str, enumD_lst, enumD_tup, numD_nil, numD_cons, truD_bl, truD_non, truD_int, truD_lst, truD_tup, attD, recOf, putFD, ap_gNilD, ap_gTupD, ap_gConsD, List.getElem?_cons_zero, List.getElem?_cons_succ, List.getElem?_nil, List.set_cons_zero, List.set_cons_succ, List.map_cons, List.map_nil, List.length_cons, List.length_nil, List.cons_append, List.nil_append, List.append_nil, List.replicate, List.getD_cons_zero, List.getD_cons_succ, List.getD_nil, List.nodup_nil, ite_true, ite_false, Bool.not_true, Bool.not_false, Bool.false_eq_true, reduceCtorEq, Nat.reduceSub, Nat.reduceAdd, List.nodup_cons, List.not_mem_nil, not_false_eq_true, and_self, and_true, true_and, decide_true, decide_false, List.take_succ_cons, List.take_zero, sizeLine_eq, Nat.zero_le, Nat.reduceLeDiff, Nat.reduceLT, Nat.reduceEqDiff, Bool.true_and, Bool.false_and, Bool.and_true, Bool.and_false, Bool.true_or, Bool.false_or, Bool.or_true, Bool.or_false, cp_bind, cp_pure, cp_bindS, cp_seqS, cp_nmO, cp_cO, cp_frzD, cp_frzO, cp_valO, cp_valD, cp_binX, cp_unX, cp_caX, cp_nilA, cp_consA, cp_nilD, cp_consD, cp_free_eq, cp_setS, cp_retS, cp_exprS, cp_ifS, cp_nxS, cp_retN, cp_mvX, cp_frD, cp_frO, cp_truO, cp_tstB, cp_andT, cp_orT, cp_notT, cp_notX, cp_andO, cp_orO, cp_ifE, cp_chX, cp_noO, cp_ptO, cp_slX, cp_tupX, cp_lstX, cp_dic0X, cp_itX, cp_enX, cp_rg1, cp_gN, cp_asgS, cp_forS, cp_loopS_cons, cp_callX, cp_appF, cp_mkX, cp_fldS, cp_attX, cp_raiseS1, cp_raiseS0, cp_tryS, cp_muX, cp_muN, cp_mtX, cp_hasOw_eq, cp_gSubD, cp_parS, cp_kwX, cp_yesT, cp_compX, cp_compL_cons, leD_int, Bool.true_and]
    | false => simp only [bR_ok, bR_exc, bR_bad, kR_ok, bS_ok, bS_exc, bS_bad, nS_nx, nS_rt, nS_exc, nS_bk, nS_ct, nS_bad, gS_nx, lS_nx, lS_ct, lS_bk, lS_rt, lS_exc, fS_rt, fS_nx, fS_exc, hS_nx, hS_rt, hS_exc, pR_ok, pR_exc, oR_some, oR_none, cR_true, cR_false, xS_ok, con_vl, con_sl, conS_nil, conS_cons, loopS_nil, compL_nil, handle_nil, handle_cons, ap_bodyF, takeR_ok, takeR_exc, nmS, coS, vaS, vaA, vdS, vdA, mvS, frS, tsS, blO, ptS, muS, owB, gbS, gbD, flS, tkS, goneS, frz_fz, frz_ow, frz_oo, mine_no, mine_fz, mine_ow, mine_oo, owned_no, owned_fz, owned_ow, owned_oo, flag_no, flag_fz, flag_ow, flag_oo, give, back, argS, ownIx, wb, one, two, intS, blS, itemsD_lst, itemsD_tup, itemsD_scr, itemsD_str, enumD_lst, enumD_tup, numD_nil, numD_cons, truD_bl, truD_non, truD_int, truD_lst, truD_tup, attD, recOf, putFD, ap_gNilD, ap_gTupD, ap_gConsD, List.getElem?_cons_zero, List.getElem?_cons_succ, List.getElem?_nil, List.set_cons_zero, List.set_cons_succ, List.map_cons, List.map_nil, List.length_cons, List.length_nil, List.cons_append, List.nil_append, List.append_nil, List.replicate, List.getD_cons_zero, List.getD_cons_succ, List.getD_nil, List.nodup_nil, ite_true, ite_false, Bool.not_true, Bool.not_false, Bool.false_eq_true, reduceCtorEq, Nat.reduceSub, Nat.reduceAdd, List.nodup_cons, List.not_mem_nil, not_false_eq_true, and_self, and_true, true_and, decide_true, decide_false, List.take_succ_cons, List.take_zero, sizeLine_eq, Nat.zero_le, Nat.reduceLeDiff, Nat.reduceLT, Nat.reduceEqDiff, Bool.true_and, Bool.false_and, Bool.and_true, Bool.and_false, Bool.true_or, Bool.false_or, Bool.or_true, Bool.or_false, cp_bind, cp_pure, cp_bindS, cp_seqS, cp_nmO, cp_cO, cp_frzD, cp_frzO, cp_valO, cp_valD, cp_binX, cp_unX, cp_caX, cp_nilA, cp_consA, cp_nilD, cp_consD, cp_free_eq, cp_setS, cp_retS, cp_exprS, cp_ifS, cp_nxS, cp_retN, cp_mvX, cp_frD, cp_frO, cp_truO, cp_tstB, cp_andT, cp_orT, cp_notT, cp_notX, cp_andO, cp_orO, cp_ifE, cp_chX, cp_noO, cp_ptO, cp_slX, cp_tupX, cp_lstX, cp_dic0X, cp_itX, cp_enX, cp_rg1, cp_gN, cp_asgS, cp_forS, cp_loopS_cons, cp_callX, cp_appF, cp_mkX, cp_fldS, cp_attX, cp_raiseS1, cp_raiseS0, cp_tryS, cp_muX, cp_muN, cp_mtX, cp_hasOw_eq, cp_gSubD, cp_parS, cp_kwX, cp_yesT, cp_compX, cp_compL_cons, Bool.false_and]
  unfold F9 g9
  simp only [bR_ok, bR_exc, bR_bad, kR_ok, bS_ok, bS_exc, bS_bad, nS_nx, nS_rt, nS_exc, nS_bk, nS_ct, nS_bad, gS_nx, lS_nx, lS_ct, lS_bk, lS_rt, lS_exc, fS_rt, fS_nx, fS_exc, hS_nx, hS_rt, hS_exc, pR_ok, pR_exc, oR_some, oR_none, cR_true, cR_false, xS_ok, con_vl, con_sl, conS_nil, conS_cons, loopS_nil, compL_nil, handle_nil, handle_cons, ap_bodyF, takeR_ok, takeR_exc, nmS, coS, vaS, vaA, vdS, vdA, mvS, frS, tsS, blO, ptS, muS, owB, gbS, gbD, flS, tkS, goneS, frz_fz, frz_ow, frz_oo, mine_no, mine_fz, mine_ow, mine_oo, owned_no, owned_fz, owned_ow, owned_oo, flag_no, flag_fz, flag_ow, flag_oo, give, back, argS, ownIx, wb, one, two, intS, blS, itemsD_lst, itemsD_tup, itemsD_scr, itemsD_str, enumD_lst, enumD_tup, numD_nil, numD_cons, truD_bl, truD_non, truD_int, truD_lst, truD_tup, attD, recOf, putFD, ap_gNilD, ap_gTupD, ap_gConsD, List.getElem?_cons_zero, List.getElem?_cons_succ, List.getElem?_nil, List.set_cons_zero, List.set_cons_succ, List.map_cons, List.map_nil, List.length_cons, List.length_nil, List.cons_append, List.nil_append, List.append_nil, List.replicate, List.getD_cons_zero, List.getD_cons_succ, List.getD_nil, List.nodup_nil, ite_true, ite_false, Bool.not_true, Bool.not_false, Bool.false_eq_true, reduceCtorEq, Nat.reduceSub, Nat.reduceAdd, List.nodup_cons, List.not_mem_nil, not_false_eq_true, and_self, and_true, true_and, decide_true, decide_false, List.take_succ_cons, List.take_zero, sizeLine_eq, Nat.zero_le, Nat.reduceLeDiff, Nat.reduceLT, Nat.reduceEqDiff, Bool.true_and, Bool.false_and, Bool.and_true, Bool.and_false, Bool.true_or, Bool.false_or, Bool.or_true, Bool.or_false, cp_bind, cp_pure, cp_bindS, cp_seqS, cp_nmO, cp_cO, cp_frzD, cp_frzO, cp_valO, cp_valD, cp_binX, cp_unX, cp_caX, cp_nilA, cp_consA, cp_nilD, cp_consD, cp_free_eq, cp_setS, cp_retS, cp_exprS, cp_ifS, cp_nxS, cp_retN, cp_mvX, cp_frD, cp_frO, cp_truO, cp_tstB, cp_andT, cp_orT, cp_notT, cp_notX, cp_andO, cp_orO, cp_ifE, cp_chX, cp_noO, cp_ptO, cp_slX, cp_tupX, cp_lstX, cp_dic0X, cp_itX, cp_enX, cp_rg1, cp_gN, cp_asgS, cp_forS, cp_loopS_cons, cp_callX, cp_appF, cp_mkX, cp_fldS, cp_attX, cp_raiseS1, cp_raiseS0, cp_tryS, cp_muX, cp_muN, cp_mtX, cp_hasOw_eq, cp_gSubD, cp_parS, cp_kwX, cp_yesT, cp_compX, cp_compL_cons, whole, ↓e]
theorem isdP {d : D} (h : PD 1000 d) : F14 [.fz d] = .ok [.fz d] (.fz (.bl (dayP d))) := by
  cases h with
  | int i =>
    have e1 : frzO (binX subD (cO (.int 0)) (cO (.int 9999))) [.fz (.int i)] = .ok [.fz (.int i)] (.vl (.int (-9999))) := by kernel_rfl
    unfold F14 g14
    simp only [bR_ok, bR_exc, bR_bad, kR_ok, bS_ok, bS_exc, bS_bad, nS_nx, nS_rt, nS_exc, nS_bk, nS_ct, nS_bad, gS_nx, lS_nx, lS_ct, lS_bk, lS_rt, lS_exc, fS_rt, fS_nx, fS_exc, hS_nx, hS_rt, hS_exc, pR_ok, pR_exc, oR_some, oR_none, cR_true, cR_false, xS_ok, con_vl, con_sl, conS_nil, conS_cons, loopS_nil, compL_nil, handle_nil, handle_cons, ap_bodyF, takeR_ok, takeR_exc, nmS, coS, vaS, vaA, vdS, vdA, mvS, frS, tsS, blO, ptS, muS, owB, gbS, gbD, flS, tkS, goneS, frz_fz, frz_ow, frz_oo, mine_no, mine_fz, mine_ow, mine_oo, owned_no, owned_fz, owned_ow, owned_oo, flag_no, flag_fz, flag_ow, flag_oo, give, back, argS, ownIx, wb, one, two, intS, blS, itemsD_lst, itemsD_tup, itemsD_scr, itemsD_str, enumD_lst, enumD_tup, numD_nil, numD_cons, truD_bl, truD_non, truD_int, truD_lst, truD_tup, attD, recOf, putFD, ap_gNilD, ap_gTupD, ap_gConsD, List.getElem?_cons_zero, List.getElem?_cons_succ, List.getElem?_nil, List.set_cons_zero, List.set_cons_succ, List.map_cons, List.map_nil, List.length_cons, List.length_nil, List.cons_append, List.nil_append, List.append_nil, List.replicate, List.getD_cons_zero, List.getD_cons_succ, List.getD_nil, List.nodup_nil, ite_true, ite_false, Bool.not_true, Bool.not_false, Bool.false_eq_true, reduceCtorEq, Nat.reduceSub, Nat.reduceAdd, List.nodup_cons, List.not_mem_nil, not_false_eq_true, and_self, and_true, true_and, decide_true, decide_false, List.take_succ_cons, List.take_zero, sizeLine_eq, Nat.zero_le, Nat.reduceLeDiff, Nat.reduceLT, Nat.reduceEqDiff, Bool.true_and, Bool.false_and, Bool.and_true, Bool.and_false, Bool.true_or, Bool.false_or, Bool.or_true, Bool.or_false, cp_bind, cp_pure, cp_bindS, cp_seqS, cp_nmO, cp_cO, cp_frzD, cp_frzO, cp_valO, cp_valD, cp_binX, cp_unX, cp_caX, cp_nilA, cp_consA, cp_nilD, cp_consD, cp_free_eq, cp_setS, cp_retS, cp_exprS, cp_ifS, cp_nxS, cp_retN, cp_mvX, cp_frD, cp_frO, cp_truO, cp_tstB, cp_andT, cp_orT, cp_notT, cp_notX, cp_andO, cp_orO, cp_ifE, cp_chX, cp_noO, cp_ptO, cp_slX, cp_tupX, cp_lstX, cp_dic0X, cp_itX, cp_enX, cp_rg1, cp_gN, cp_asgS, cp_forS, cp_loopS_cons, cp_callX, cp_appF, cp_mkX, cp_fldS, cp_attX, cp_raiseS1, cp_raiseS0, cp_tryS, cp_muX, cp_muN, cp_mtX, cp_hasOw_eq, cp_gSubD, cp_parS, cp_kwX, cp_yesT, cp_compX, cp_compL_cons, ↓e1, between]
    try rfl
  | _ => kernel_rfl
/-! ### to whom: the program's look -/
def wrd : List Str := ["one", "children", "stock"]
def partP : D → Bool
  | .tup [.str w, n] => wrd.contains w && nmP n
  | _ => false
def partsP : D → Bool
  | .tup ps => decide (1 ≤ ps.length ∧ ps.length ≤ 6) && ps.all partP
  | _ => false
def whomP : D → Bool
  | .tup ps => decide (1 ≤ ps.length ∧ ps.length ≤ 4) && ps.all partsP
  | _ => false
theorem wordsC : (cO c_PART_WORDS) = cO (.tup (wrd.map D.str)) := rfl
theorem n2 {n : Nat} (h : n ≠ 2) : eq2D true (.int (n : Nat)) (.int 2) = some (.fz (.bl true)) := by
  rw [ne2_int, decide_eq_false (by omega)]
  rfl
theorem n22 : eq2D true (.int ((2 : Nat) : Int)) (.int 2) = some (.fz (.bl false)) := by kernel_rfl
/-- what is asked of a part first -/
def partG (i : Nat) : Mo Bool := orT (notT (truO (frzO (caX isiF (consA (nmO i) (consA (cO (.ty "tuple")) nilA)))))) (orT (tstB (binX (eq2D true) (frzO (caX (one lenD) (consA (nmO i) nilA))) (cO (.int 2)))) (notT (truO (frzO (caX isiF (consA (frzO (binX ixD (nmO i) (cO (.int 0)))) (consA (cO (.ty "str")) nilA)))))))
def twoS : D → Bool
  | .tup [.str _, _] => true
  | _ => false
theorem tup_is {ds : List D} : isiF [.tup ds, .ty "tuple"] = some (.fz (.bl true)) := by kernel_rfl
theorem str_is {z : Str} : isiF [.str z, .ty "str"] = some (.fz (.bl true)) := by kernel_rfl
theorem not_str {d : D} (h : PD 1000 d) (n : ∀ z, d ≠ .str z) : isiF [d, .ty "str"] = some (.fz (.bl false)) := by
  cases h with
  | str _ => exact absurd rfl (n _)
  | _ => kernel_rfl
theorem not_tup {d : D} (h : PD 1000 d) (n : ∀ z, d ≠ .tup z) : isiF [d, .ty "tuple"] = some (.fz (.bl false)) := by
  cases h with
  | tup _ _ => exact absurd rfl (n _)
  | _ => kernel_rfl
theorem partG0 {d : D} (h : PD 1000 d) : partG 0 [.fz d] = .ok [.fz d] (!twoS d) := by
  unfold partG
  by_cases c : ∃ ds, d = .tup ds
  · obtain ⟨ds, rfl⟩ := c
    cases h with
    | tup hl hd =>
      by_cases c2 : ds.length = 2
      · match ds, c2, hd with
        | [a, b], _, hd =>
          have ha := hd a (by simp)
          by_cases c3 : ∃ z, a = .str z
          · obtain ⟨z, rfl⟩ := c3
            simp only [bR_ok, bR_exc, bR_bad, kR_ok, bS_ok, bS_exc, bS_bad, nS_nx, nS_rt, nS_exc, nS_bk, nS_ct, nS_bad, gS_nx, lS_nx, lS_ct, lS_bk, lS_rt, lS_exc, fS_rt, fS_nx, fS_exc, hS_nx, hS_rt, hS_exc, pR_ok, pR_exc, oR_some, oR_none, cR_true, cR_false, xS_ok, con_vl, con_sl, conS_nil, conS_cons, loopS_nil, compL_nil, handle_nil, handle_cons, ap_bodyF, takeR_ok, takeR_exc, nmS, coS, vaS, vaA, vdS, vdA, mvS, frS, tsS, blO, ptS, muS, owB, gbS, gbD, flS, tkS, goneS, frz_fz, frz_ow, frz_oo, mine_no, mine_fz, mine_ow, mine_oo, owned_no, owned_fz, owned_ow, owned_oo, flag_no, flag_fz, flag_ow, flag_oo, give, back, argS, ownIx, wb, one, two, intS, blS, itemsD_lst, itemsD_tup, itemsD_scr, itemsD_str, enumD_lst, enumD_tup, numD_nil, numD_cons, truD_bl, truD_non, truD_int, truD_lst, truD_tup, attD, recOf, putFD, ap_gNilD, ap_gTupD, ap_gConsD, List.getElem?_cons_zero, List.getElem?_cons_succ, List.getElem?_nil, List.set_cons_zero, List.set_cons_succ, List.map_cons, List.map_nil, List.length_cons, List.length_nil, List.cons_append, List.nil_append, List.append_nil, List.replicate, List.getD_cons_zero, List.getD_cons_succ, List.getD_nil, List.nodup_nil, ite_true, ite_false, Bool.not_true, Bool.not_false, Bool.false_eq_true, reduceCtorEq, Nat.reduceSub, Nat.reduceAdd, List.nodup_cons, List.not_mem_nil, not_false_eq_true, and_self, and_true, true_and, decide_true, decide_false, List.take_succ_cons, List.take_zero, sizeLine_eq, Nat.zero_le, Nat.reduceLeDiff, Nat.reduceLT, Nat.reduceEqDiff, Bool.true_and, Bool.false_and, Bool.and_true, Bool.and_false, Bool.true_or, Bool.false_or, Bool.or_true, Bool.or_false, cp_bind, cp_pure, cp_bindS, cp_seqS, cp_nmO, cp_cO, cp_frzD, cp_frzO, cp_valO, cp_valD, cp_binX, cp_unX, cp_caX, cp_nilA, cp_consA, cp_nilD, cp_consD, cp_free_eq, cp_setS, cp_retS, cp_exprS, cp_ifS, cp_nxS, cp_retN, cp_mvX, cp_frD, cp_frO, cp_truO, cp_tstB, cp_andT, cp_orT, cp_notT, cp_notX, cp_andO, cp_orO, cp_ifE, cp_chX, cp_noO, cp_ptO, cp_slX, cp_tupX, cp_lstX, cp_dic0X, cp_itX, cp_enX, cp_rg1, cp_gN, cp_asgS, cp_forS, cp_loopS_cons, cp_callX, cp_appF, cp_mkX, cp_fldS, cp_attX, cp_raiseS1, cp_raiseS0, cp_tryS, cp_muX, cp_muN, cp_mtX, cp_hasOw_eq, cp_gSubD, cp_parS, cp_kwX, cp_yesT, cp_compX, cp_compL_cons, tup_is, lenD_tup, n22, tup_ix0, str_is, twoS]
          · have c3' : ∀ z, a ≠ .str z := fun z q => c3 ⟨z, q⟩
            have t : twoS (.tup [a, b]) = false := by
              cases a with
              | str z => exact absurd rfl (c3' z)
              | _ => rfl
            rw [t]
            simp only [bR_ok, bR_exc, bR_bad, kR_ok, bS_ok, bS_exc, bS_bad, nS_nx, nS_rt, nS_exc, nS_bk, nS_ct, nS_bad, gS_nx, lS_nx, lS_ct, lS_bk, lS_rt, lS_exc, fS_rt, fS_nx, fS_exc, hS_nx, hS_rt, hS_exc, pR_ok, pR_exc, oR_some, oR_none, cR_true, cR_false, xS_ok, con_vl, con_sl, conS_nil, conS_cons, loopS_nil, compL_nil, handle_nil, handle_cons, ap_bodyF, takeR_ok, takeR_exc, nmS, coS, vaS, vaA, vdS, vdA, mvS, frS, tsS, blO, ptS, muS, owB, gbS, gbD, flS, tkS, goneS, frz_fz, frz_ow, frz_oo, mine_no, mine_fz, mine_ow, mine_oo, owned_no, owned_fz, owned_ow, owned_oo, flag_no, flag_fz, flag_ow, flag_oo, give, back, argS, ownIx, wb, one, two, intS, blS, itemsD_lst, itemsD_tup, itemsD_scr, itemsD_str, enumD_lst, enumD_tup, numD_nil, numD_cons, truD_bl, truD_non, truD_int, truD_lst, truD_tup, attD, recOf, putFD, ap_gNilD, ap_gTupD, ap_gConsD, List.getElem?_cons_zero, List.getElem?_cons_succ, List.getElem?_nil, List.set_cons_zero, List.set_cons_succ, List.map_cons, List.map_nil, List.length_cons, List.length_nil, List.cons_append, List.nil_append, List.append_nil, List.replicate, List.getD_cons_zero, List.getD_cons_succ, List.getD_nil, List.nodup_nil, ite_true, ite_false, Bool.not_true, Bool.not_false, Bool.false_eq_true, reduceCtorEq, Nat.reduceSub, Nat.reduceAdd, List.nodup_cons, List.not_mem_nil, not_false_eq_true, and_self, and_true, true_and, decide_true, decide_false, List.take_succ_cons, List.take_zero, sizeLine_eq, Nat.zero_le, Nat.reduceLeDiff, Nat.reduceLT, Nat.reduceEqDiff, Bool.true_and, Bool.false_and, Bool.and_true, Bool.and_false, Bool.true_or, Bool.false_or, Bool.or_true, Bool.or_false, cp_bind, cp_pure, cp_bindS, cp_seqS, cp_nmO, cp_cO, cp_frzD, cp_frzO, cp_valO, cp_valD, cp_binX, cp_unX, cp_caX, cp_nilA, cp_consA, cp_nilD, cp_consD, cp_free_eq, cp_setS, cp_retS, cp_exprS, cp_ifS, cp_nxS, cp_retN, cp_mvX, cp_frD, cp_frO, cp_truO, cp_tstB, cp_andT, cp_orT, cp_notT, cp_notX, cp_andO, cp_orO, cp_ifE, cp_chX, cp_noO, cp_ptO, cp_slX, cp_tupX, cp_lstX, cp_dic0X, cp_itX, cp_enX, cp_rg1, cp_gN, cp_asgS, cp_forS, cp_loopS_cons, cp_callX, cp_appF, cp_mkX, cp_fldS, cp_attX, cp_raiseS1, cp_raiseS0, cp_tryS, cp_muX, cp_muN, cp_mtX, cp_hasOw_eq, cp_gSubD, cp_parS, cp_kwX, cp_yesT, cp_compX, cp_compL_cons, tup_is, lenD_tup, n22, tup_ix0, not_str ha c3']
      · have t : twoS (.tup ds) = false := by
          match ds, c2 with
          | [], _ => rfl
          | [a], _ => cases a <;> rfl
          | a :: b :: c :: ds, _ => cases a <;> rfl
          | [a, b], c2 => exact absurd rfl c2
        have e2 := n2 c2
        have e3 := lenD_tup (ds := ds)
        rw [t]
        generalize (ds.length : Int) = L at e2 e3
        simp only [bR_ok, bR_exc, bR_bad, kR_ok, bS_ok, bS_exc, bS_bad, nS_nx, nS_rt, nS_exc, nS_bk, nS_ct, nS_bad, gS_nx, lS_nx, lS_ct, lS_bk, lS_rt, lS_exc, fS_rt, fS_nx, fS_exc, hS_nx, hS_rt, hS_exc, pR_ok, pR_exc, oR_some, oR_none, cR_true, cR_false, xS_ok, con_vl, con_sl, conS_nil, conS_cons, loopS_nil, compL_nil, handle_nil, handle_cons, ap_bodyF, takeR_ok, takeR_exc, nmS, coS, vaS, vaA, vdS, vdA, mvS, frS, tsS, blO, ptS, muS, owB, gbS, gbD, flS, tkS, goneS, frz_fz, frz_ow, frz_oo, mine_no, mine_fz, mine_ow, mine_oo, owned_no, owned_fz, owned_ow, owned_oo, flag_no, flag_fz, flag_ow, flag_oo, give, back, argS, ownIx, wb, one, two, intS, blS, itemsD_lst, itemsD_tup, itemsD_scr, itemsD_str, enumD_lst, enumD_tup, numD_nil, numD_cons, truD_bl, truD_non, truD_int, truD_lst, truD_tup, attD, recOf, putFD, ap_gNilD, ap_gTupD, ap_gConsD, List.getElem?_cons_zero, List.getElem?_cons_succ, List.getElem?_nil, List.set_cons_zero, List.set_cons_succ, List.map_cons, List.map_nil, List.length_cons, List.length_nil, List.cons_append, List.nil_append, List.append_nil, List.replicate, List.getD_cons_zero, List.getD_cons_succ, List.getD_nil, List.nodup_nil, ite_true, ite_false, Bool.not_true, Bool.not_false, Bool.false_eq_true, reduceCtorEq, Nat.reduceSub, Nat.reduceAdd, List.nodup_cons, List.not_mem_nil, not_false_eq_true, and_self, and_true, true_and, decide_true, decide_false, List.take_succ_cons, List.take_zero, sizeLine_eq, Nat.zero_le, Nat.reduceLeDiff, Nat.reduceLT, Nat.reduceEqDiff, Bool.true_and, Bool.false_and, Bool.and_true, Bool.and_false, Bool.true_or, Bool.false_or, Bool.or_true, Bool.or_false, cp_bind, cp_pure, cp_bindS, cp_seqS, cp_nmO, cp_cO, cp_frzD, cp_frzO, cp_valO, cp_valD, cp_binX, cp_unX, cp_caX, cp_nilA, cp_consA, cp_nilD, cp_consD, cp_free_eq, cp_setS, cp_retS, cp_exprS, cp_ifS, cp_nxS, cp_retN, cp_mvX, cp_frD, cp_frO, cp_truO, cp_tstB, cp_andT, cp_orT, cp_notT, cp_notX, cp_andO, cp_orO, cp_ifE, cp_chX, cp_noO, cp_ptO, cp_slX, cp_tupX, cp_lstX, cp_dic0X, cp_itX, cp_enX, cp_rg1, cp_gN, cp_asgS, cp_forS, cp_loopS_cons, cp_callX, cp_appF, cp_mkX, cp_fldS, cp_attX, cp_raiseS1, cp_raiseS0, cp_tryS, cp_muX, cp_muN, cp_mtX, cp_hasOw_eq, cp_gSubD, cp_parS, cp_kwX, cp_yesT, cp_compX, cp_compL_cons, tup_is, e2, e3]
  · have c' : ∀ z, d ≠ .tup z := fun z q => c ⟨z, q⟩
    have t : twoS d = false := by
      cases d with
      | tup z => exact absurd rfl (c' z)
      | _ => rfl
    rw [t]
    simp only [bR_ok, bR_exc, bR_bad, kR_ok, bS_ok, bS_exc, bS_bad, nS_nx, nS_rt, nS_exc, nS_bk, nS_ct, nS_bad, gS_nx, lS_nx, lS_ct, lS_bk, lS_rt, lS_exc, fS_rt, fS_nx, fS_exc, hS_nx, hS_rt, hS_exc, pR_ok, pR_exc, oR_some, oR_none, cR_true, cR_false, xS_ok, con_vl, con_sl, conS_nil, conS_cons, loopS_nil, compL_nil, handle_nil, handle_cons, ap_bodyF, takeR_ok, takeR_exc, nmS, coS, vaS, vaA, vdS, vdA, mvS, frS, tsS, blO, ptS, muS, owB, gbS, gbD, flS, tkS, goneS, frz_fz, frz_ow, frz_oo, mine_no, mine_fz, mine_ow, mine_oo, owned_no, owned_fz, owned_ow, owned_oo, flag_no, flag_fz, flag_ow, flag_oo, give, back, argS, ownIx, wb, one, two, intS, blS, itemsD_lst, itemsD_tup, itemsD_scr, itemsD_str, enumD_lst, enumD_tup, numD_nil, numD_cons, truD_bl, truD_non, truD_int, truD_lst, truD_tup, attD, recOf, putFD, ap_gNilD, ap_gTupD, ap_gConsD, List.getElem?_cons_zero, List.getElem?_cons_succ, List.getElem?_nil, List.set_cons_zero, List.set_cons_succ, List.map_cons, List.map_nil, List.length_cons, List.length_nil, List.cons_append, List.nil_append, List.append_nil, List.replicate, List.getD_cons_zero, List.getD_cons_succ, List.getD_nil, List.nodup_nil, ite_true, ite_false, Bool.not_true, Bool.not_false, Bool.false_eq_true, reduceCtorEq, Nat.reduceSub, Nat.reduceAdd, List.nodup_cons, List.not_mem_nil, not_false_eq_true, and_self, and_true, true_and, decide_true, decide_false, List.take_succ_cons, List.take_zero, sizeLine_eq, Nat.zero_le, Nat.reduceLeDiff, Nat.reduceLT, Nat.reduceEqDiff, Bool.true_and, Bool.false_and, Bool.and_true, Bool.and_false, Bool.true_or, Bool.false_or, Bool.or_true, Bool.or_false, cp_bind, cp_pure, cp_bindS, cp_seqS, cp_nmO, cp_cO, cp_frzD, cp_frzO, cp_valO, cp_valD, cp_binX, cp_unX, cp_caX, cp_nilA, cp_consA, cp_nilD, cp_consD, cp_free_eq, cp_setS, cp_retS, cp_exprS, cp_ifS, cp_nxS, cp_retN, cp_mvX, cp_frD, cp_frO, cp_truO, cp_tstB, cp_andT, cp_orT, cp_notT, cp_notX, cp_andO, cp_orO, cp_ifE, cp_chX, cp_noO, cp_ptO, cp_slX, cp_tupX, cp_lstX, cp_dic0X, cp_itX, cp_enX, cp_rg1, cp_gN, cp_asgS, cp_forS, cp_loopS_cons, cp_callX, cp_appF, cp_mkX, cp_fldS, cp_attX, cp_raiseS1, cp_raiseS0, cp_tryS, cp_muX, cp_muN, cp_mtX, cp_hasOw_eq, cp_gSubD, cp_parS, cp_kwX, cp_yesT, cp_compX, cp_compL_cons, not_tup h c']
theorem partG2 {d : D} (h : PD 1000 d) {t u : D} : partG 2 [.fz t, .fz u, .fz d] = .ok [.fz t, .fz u, .fz d] (!twoS d) := by
  unfold partG
  by_cases c : ∃ ds, d = .tup ds
  · obtain ⟨ds, rfl⟩ := c
    cases h with
    | tup hl hd =>
      by_cases c2 : ds.length = 2
      · match ds, c2, hd with
        | [a, b], _, hd =>
          have ha := hd a (by simp)
          by_cases c3 : ∃ z, a = .str z
          · obtain ⟨z, rfl⟩ := c3
            simp only [bR_ok, bR_exc, bR_bad, kR_ok, bS_ok, bS_exc, bS_bad, nS_nx, nS_rt, nS_exc, nS_bk, nS_ct, nS_bad, gS_nx, lS_nx, lS_ct, lS_bk, lS_rt, lS_exc, fS_rt, fS_nx, fS_exc, hS_nx, hS_rt, hS_exc, pR_ok, pR_exc, oR_some, oR_none, cR_true, cR_false, xS_ok, con_vl, con_sl, conS_nil, conS_cons, loopS_nil, compL_nil, handle_nil, handle_cons, ap_bodyF, takeR_ok, takeR_exc, nmS, coS, vaS, vaA, vdS, vdA, mvS, frS, tsS, blO, ptS, muS, owB, gbS, gbD, flS, tkS, goneS, frz_fz, frz_ow, frz_oo, mine_no, mine_fz, mine_ow, mine_oo, owned_no, owned_fz, owned_ow, owned_oo, flag_no, flag_fz, flag_ow, flag_oo, give, back, argS, ownIx, wb, one, two, intS, blS, itemsD_lst, itemsD_tup, itemsD_scr, itemsD_str, enumD_lst, enumD_tup, numD_nil, numD_cons, truD_bl, truD_non, truD_int, truD_lst, truD_tup, attD, recOf, putFD, ap_gNilD, ap_gTupD, ap_gConsD, List.getElem?_cons_zero, List.getElem?_cons_succ, List.getElem?_nil, List.set_cons_zero, List.set_cons_succ, List.map_cons, List.map_nil, List.length_cons, List.length_nil, List.cons_append, List.nil_append, List.append_nil, List.replicate, List.getD_cons_zero, List.getD_cons_succ, List.getD_nil, List.nodup_nil, ite_true, ite_false, Bool.not_true, Bool.not_false, Bool.false_eq_true, reduceCtorEq, Nat.reduceSub, Nat.reduceAdd, List.nodup_cons, List.not_mem_nil, not_false_eq_true, and_self, and_true, true_and, decide_true, decide_false, List.take_succ_cons, List.take_zero, sizeLine_eq, Nat.zero_le, Nat.reduceLeDiff, Nat.reduceLT, Nat.reduceEqDiff, Bool.true_and, Bool.false_and, Bool.and_true, Bool.and_false, Bool.true_or, Bool.false_or, Bool.or_true, Bool.or_false, cp_bind, cp_pure, cp_bindS, cp_seqS, cp_nmO, cp_cO, cp_frzD, cp_frzO, cp_valO, cp_valD, cp_binX, cp_unX, cp_caX, cp_nilA, cp_consA, cp_nilD, cp_consD, cp_free_eq, cp_setS, cp_retS, cp_exprS, cp_ifS, cp_nxS, cp_retN, cp_mvX, cp_frD, cp_frO, cp_truO, cp_tstB, cp_andT, cp_orT, cp_notT, cp_notX, cp_andO, cp_orO, cp_ifE, cp_chX, cp_noO, cp_ptO, cp_slX, cp_tupX, cp_lstX, cp_dic0X, cp_itX, cp_enX, cp_rg1, cp_gN, cp_asgS, cp_forS, cp_loopS_cons, cp_callX, cp_appF, cp_mkX, cp_fldS, cp_attX, cp_raiseS1, cp_raiseS0, cp_tryS, cp_muX, cp_muN, cp_mtX, cp_hasOw_eq, cp_gSubD, cp_parS, cp_kwX, cp_yesT, cp_compX, cp_compL_cons, tup_is, lenD_tup, n22, tup_ix0, str_is, twoS]
          · have c3' : ∀ z, a ≠ .str z := fun z q => c3 ⟨z, q⟩
            have t : twoS (.tup [a, b]) = false := by
              cases a with
              | str z => exact absurd rfl (c3' z)
              | _ => rfl
            rw [t]
            simp only [bR_ok, bR_exc, bR_bad, kR_ok, bS_ok, bS_exc, bS_bad, nS_nx, nS_rt, nS_exc, nS_bk, nS_ct, nS_bad, gS_nx, lS_nx, lS_ct, lS_bk, lS_rt, lS_exc, fS_rt, fS_nx, fS_exc, hS_nx, hS_rt, hS_exc, pR_ok, pR_exc, oR_some, oR_none, cR_true, cR_false, xS_ok, con_vl, con_sl, conS_nil, conS_cons, loopS_nil, compL_nil, handle_nil, handle_cons, ap_bodyF, takeR_ok, takeR_exc, nmS, coS, vaS, vaA, vdS, vdA, mvS, frS, tsS, blO, ptS, muS, owB, gbS, gbD, flS, tkS, goneS, frz_fz, frz_ow, frz_oo, mine_no, mine_fz, mine_ow, mine_oo, owned_no, owned_fz, owned_ow, owned_oo, flag_no, flag_fz, flag_ow, flag_oo, give, back, argS, ownIx, wb, one, two, intS, blS, itemsD_lst, itemsD_tup, itemsD_scr, itemsD_str, enumD_lst, enumD_tup, numD_nil, numD_cons, truD_bl, truD_non, truD_int, truD_lst, truD_tup, attD, recOf, putFD, ap_gNilD, ap_gTupD, ap_gConsD, List.getElem?_cons_zero, List.getElem?_cons_succ, List.getElem?_nil, List.set_cons_zero, List.set_cons_succ, List.map_cons, List.map_nil, List.length_cons, List.length_nil, List.cons_append, List.nil_append, List.append_nil, List.replicate, List.getD_cons_zero, List.getD_cons_succ, List.getD_nil, List.nodup_nil, ite_true, ite_false, Bool.not_true, Bool.not_false, Bool.false_eq_true, reduceCtorEq, Nat.reduceSub, Nat.reduceAdd, List.nodup_cons, List.not_mem_nil, not_false_eq_true, and_self, and_true, true_and, decide_true, decide_false, List.take_succ_cons, List.take_zero, sizeLine_eq, Nat.zero_le, Nat.reduceLeDiff, Nat.reduceLT, Nat.reduceEqDiff, Bool.true_and, Bool.false_and, Bool.and_true, Bool.and_false, Bool.true_or, Bool.false_or, Bool.or_true, Bool.or_false, cp_bind, cp_pure, cp_bindS, cp_seqS, cp_nmO, cp_cO, cp_frzD, cp_frzO, cp_valO, cp_valD, cp_binX, cp_unX, cp_caX, cp_nilA, cp_consA, cp_nilD, cp_consD, cp_free_eq, cp_setS, cp_retS, cp_exprS, cp_ifS, cp_nxS, cp_retN, cp_mvX, cp_frD, cp_frO, cp_truO, cp_tstB, cp_andT, cp_orT, cp_notT, cp_notX, cp_andO, cp_orO, cp_ifE, cp_chX, cp_noO, cp_ptO, cp_slX, cp_tupX, cp_lstX, cp_dic0X, cp_itX, cp_enX, cp_rg1, cp_gN, cp_asgS, cp_forS, cp_loopS_cons, cp_callX, cp_appF, cp_mkX, cp_fldS, cp_attX, cp_raiseS1, cp_raiseS0, cp_tryS, cp_muX, cp_muN, cp_mtX, cp_hasOw_eq, cp_gSubD, cp_parS, cp_kwX, cp_yesT, cp_compX, cp_compL_cons, tup_is, lenD_tup, n22, tup_ix0, not_str ha c3']
      · have t : twoS (.tup ds) = false := by
          match ds, c2 with
          | [], _ => rfl
          | [a], _ => cases a <;> rfl
          | a :: b :: c :: ds, _ => cases a <;> rfl
          | [a, b], c2 => exact absurd rfl c2
        have e2 := n2 c2
        have e3 := lenD_tup (ds := ds)
        rw [t]
        generalize (ds.length : Int) = L at e2 e3
        simp only [bR_ok, bR_exc, bR_bad, kR_ok, bS_ok, bS_exc, bS_bad, nS_nx, nS_rt, nS_exc, nS_bk, nS_ct, nS_bad, gS_nx, lS_nx, lS_ct, lS_bk, lS_rt, lS_exc, fS_rt, fS_nx, fS_exc, hS_nx, hS_rt, hS_exc, pR_ok, pR_exc, oR_some, oR_none, cR_true, cR_false, xS_ok, con_vl, con_sl, conS_nil, conS_cons, loopS_nil, compL_nil, handle_nil, handle_cons, ap_bodyF, takeR_ok, takeR_exc, nmS, coS, vaS, vaA, vdS, vdA, mvS, frS, tsS, blO, ptS, muS, owB, gbS, gbD, flS, tkS, goneS, frz_fz, frz_ow, frz_oo, mine_no, mine_fz, mine_ow, mine_oo, owned_no, owned_fz, owned_ow, owned_oo, flag_no, flag_fz, flag_ow, flag_oo, give, back, argS, ownIx, wb, one, two, intS, blS, itemsD_lst, itemsD_tup, itemsD_scr, itemsD_str, enumD_lst, enumD_tup, numD_nil, numD_cons, truD_bl, truD_non, truD_int, truD_lst, truD_tup, attD, recOf, putFD, ap_gNilD, ap_gTupD, ap_gConsD, List.getElem?_cons_zero, List.getElem?_cons_succ, List.getElem?_nil, List.set_cons_zero, List.set_cons_succ, List.map_cons, List.map_nil, List.length_cons, List.length_nil, List.cons_append, List.nil_append, List.append_nil, List.replicate, List.getD_cons_zero, List.getD_cons_succ, List.getD_nil, List.nodup_nil, ite_true, ite_false, Bool.not_true, Bool.not_false, Bool.false_eq_true, reduceCtorEq, Nat.reduceSub, Nat.reduceAdd, List.nodup_cons, List.not_mem_nil, not_false_eq_true, and_self, and_true, true_and, decide_true, decide_false, List.take_succ_cons, List.take_zero, sizeLine_eq, Nat.zero_le, Nat.reduceLeDiff, Nat.reduceLT, Nat.reduceEqDiff, Bool.true_and, Bool.false_and, Bool.and_true, Bool.and_false, Bool.true_or, Bool.false_or, Bool.or_true, Bool.or_false, cp_bind, cp_pure, cp_bindS, cp_seqS, cp_nmO, cp_cO, cp_frzD, cp_frzO, cp_valO, cp_valD, cp_binX, cp_unX, cp_caX, cp_nilA, cp_consA, cp_nilD, cp_consD, cp_free_eq, cp_setS, cp_retS, cp_exprS, cp_ifS, cp_nxS, cp_retN, cp_mvX, cp_frD, cp_frO, cp_truO, cp_tstB, cp_andT, cp_orT, cp_notT, cp_notX, cp_andO, cp_orO, cp_ifE, cp_chX, cp_noO, cp_ptO, cp_slX, cp_tupX, cp_lstX, cp_dic0X, cp_itX, cp_enX, cp_rg1, cp_gN, cp_asgS, cp_forS, cp_loopS_cons, cp_callX, cp_appF, cp_mkX, cp_fldS, cp_attX, cp_raiseS1, cp_raiseS0, cp_tryS, cp_muX, cp_muN, cp_mtX, cp_hasOw_eq, cp_gSubD, cp_parS, cp_kwX, cp_yesT, cp_compX, cp_compL_cons, tup_is, e2, e3]
  · have c' : ∀ z, d ≠ .tup z := fun z q => c ⟨z, q⟩
    have t : twoS d = false := by
      cases d with
      | tup z => exact absurd rfl (c' z)
      | _ => rfl
    rw [t]
    simp only [bR_ok, bR_exc, bR_bad, kR_ok, bS_ok, bS_exc, bS_bad, nS_nx, nS_rt, nS_exc, nS_bk, nS_ct, nS_bad, gS_nx, lS_nx, lS_ct, lS_bk, lS_rt, lS_exc, fS_rt, fS_nx, fS_exc, hS_nx, hS_rt, hS_exc, pR_ok, pR_exc, oR_some, oR_none, cR_true, cR_false, xS_ok, con_vl, con_sl, conS_nil, conS_cons, loopS_nil, compL_nil, handle_nil, handle_cons, ap_bodyF, takeR_ok, takeR_exc, nmS, coS, vaS, vaA, vdS, vdA, mvS, frS, tsS, blO, ptS, muS, owB, gbS, gbD, flS, tkS, goneS, frz_fz, frz_ow, frz_oo, mine_no, mine_fz, mine_ow, mine_oo, owned_no, owned_fz, owned_ow, owned_oo, flag_no, flag_fz, flag_ow, flag_oo, give, back, argS, ownIx, wb, one, two, intS, blS, itemsD_lst, itemsD_tup, itemsD_scr, itemsD_str, enumD_lst, enumD_tup, numD_nil, numD_cons, truD_bl, truD_non, truD_int, truD_lst, truD_tup, attD, recOf, putFD, ap_gNilD, ap_gTupD, ap_gConsD, List.getElem?_cons_zero, List.getElem?_cons_succ, List.getElem?_nil, List.set_cons_zero, List.set_cons_succ, List.map_cons, List.map_nil, List.length_cons, List.length_nil, List.cons_append, List.nil_append, List.append_nil, List.replicate, List.getD_cons_zero, List.getD_cons_succ, List.getD_nil, List.nodup_nil, ite_true, ite_false, Bool.not_true, Bool.not_false, Bool.false_eq_true, reduceCtorEq, Nat.reduceSub, Nat.reduceAdd, List.nodup_cons, List.not_mem_nil, not_false_eq_true, and_self, and_true, true_and, decide_true, decide_false, List.take_succ_cons, List.take_zero, sizeLine_eq, Nat.zero_le, Nat.reduceLeDiff, Nat.reduceLT, Nat.reduceEqDiff, Bool.true_and, Bool.false_and, Bool.and_true, Bool.and_false, Bool.true_or, Bool.false_or, Bool.or_true, Bool.or_false, cp_bind, cp_pure, cp_bindS, cp_seqS, cp_nmO, cp_cO, cp_frzD, cp_frzO, cp_valO, cp_valD, cp_binX, cp_unX, cp_caX, cp_nilA, cp_consA, cp_nilD, cp_consD, cp_free_eq, cp_setS, cp_retS, cp_exprS, cp_ifS, cp_nxS, cp_retN, cp_mvX, cp_frD, cp_frO, cp_truO, cp_tstB, cp_andT, cp_orT, cp_notT, cp_notX, cp_andO, cp_orO, cp_ifE, cp_chX, cp_noO, cp_ptO, cp_slX, cp_tupX, cp_lstX, cp_dic0X, cp_itX, cp_enX, cp_rg1, cp_gN, cp_asgS, cp_forS, cp_loopS_cons, cp_callX, cp_appF, cp_mkX, cp_fldS, cp_attX, cp_raiseS1, cp_raiseS0, cp_tryS, cp_muX, cp_muN, cp_mtX, cp_hasOw_eq, cp_gSubD, cp_parS, cp_kwX, cp_yesT, cp_compX, cp_compL_cons, not_tup h c']
theorem part_split {d : D} (h : twoS d = true) : ∃ w n, d = .tup [.str w, n] := by
  match d, h with
  | .tup [.str w, n], _ => exact ⟨w, n, rfl⟩
theorem part_not {d : D} (h : twoS d = false) : partP d = false := by
  match d, h with
  | .tup [.str w, n], h => cases h
  | .tup [], _ => rfl
  | .tup [a], _ => cases a <;> rfl
  | .tup (a :: b :: c :: ds), _ => cases a <;> rfl
  | .tup [.non, _], _ => rfl
  | .tup [.bl _, _], _ => rfl
  | .tup [.int _, _], _ => rfl
  | .tup [.tup _, _], _ => rfl
  | .tup [.lst _, _], _ => rfl
  | .tup [.dic _, _], _ => rfl
  | .tup [.obj _ _, _], _ => rfl
  | .tup [.exc _ _, _], _ => rfl
  | .tup [.cls _, _], _ => rfl
  | .tup [.fn _, _], _ => rfl
  | .tup [.ty _, _], _ => rfl
  | .tup [.scr _, _], _ => rfl
  | .non, _ => rfl
  | .bl _, _ => rfl
  | .int _, _ => rfl
  | .str _, _ => rfl
  | .lst _, _ => rfl
  | .dic _, _ => rfl
  | .obj _ _, _ => rfl
  | .exc _ _, _ => rfl
  | .cls _, _ => rfl
  | .fn _, _ => rfl
  | .ty _, _ => rfl
  | .scr _, _ => rfl
theorem isPart {d : D} (h : PD 1000 d) : F20 [.fz d] = .ok [.fz d] (.fz (.bl (partP d))) := by
  have e := partG0 h
  unfold partG at e
  unfold F20 g20
  cases q : twoS d with
  | false =>
    rw [q] at e
    rw [part_not q]
    simp only [bR_ok, bR_exc, bR_bad, kR_ok, bS_ok, bS_exc, bS_bad, nS_nx, nS_rt, nS_exc, nS_bk, nS_ct, nS_bad, gS_nx, lS_nx, lS_ct, lS_bk, lS_rt, lS_exc, fS_rt, fS_nx, fS_exc, hS_nx, hS_rt, hS_exc, pR_ok, pR_exc, oR_some, oR_none, cR_true, cR_false, xS_ok, con_vl, con_sl, conS_nil, conS_cons, loopS_nil, compL_nil, handle_nil, handle_cons, ap_bodyF, takeR_ok, takeR_exc, nmS, coS, vaS, vaA, vdS, vdA, mvS, frS, tsS, blO, ptS, muS, owB, gbS, gbD, flS, tkS, goneS, frz_fz, frz_ow, frz_oo, mine_no, mine_fz, mine_ow, mine_oo, owned_no, owned_fz, owned_ow, owned_oo, flag_no, flag_fz, flag_ow, flag_oo, give, back, argS, ownIx, wb, one, two, intS, blS, itemsD_lst, itemsD_tup, itemsD_scr, itemsD_str, enumD_lst, enumD_tup, numD_nil, numD_cons, truD_bl, truD_non, truD_int, truD_lst, truD_tup, attD, recOf, putFD, ap_gNilD, ap_gTupD, ap_gConsD, List.getElem?_cons_zero, List.getElem?_cons_succ, List.getElem?_nil, List.set_cons_zero, List.set_cons_succ, List.map_cons, List.map_nil, List.length_cons, List.length_nil, List.cons_append, List.nil_append, List.append_nil, List.replicate, List.getD_cons_zero, List.getD_cons_succ, List.getD_nil, List.nodup_nil, ite_true, ite_false, Bool.not_true, Bool.not_false, Bool.false_eq_true, reduceCtorEq, Nat.reduceSub, Nat.reduceAdd, List.nodup_cons, List.not_mem_nil, not_false_eq_true, and_self, and_true, true_and, decide_true, decide_false, List.take_succ_cons, List.take_zero, sizeLine_eq, Nat.zero_le, Nat.reduceLeDiff, Nat.reduceLT, Nat.reduceEqDiff, Bool.true_and, Bool.false_and, Bool.and_true, Bool.and_false, Bool.true_or, Bool.false_or, Bool.or_true, Bool.or_false, cp_bind, cp_pure, cp_bindS, cp_seqS, cp_nmO, cp_cO, cp_frzD, cp_frzO, cp_valO, cp_valD, cp_binX, cp_unX, cp_caX, cp_nilA, cp_consA, cp_nilD, cp_consD, cp_free_eq, cp_setS, cp_retS, cp_exprS, cp_ifS, cp_nxS, cp_retN, cp_mvX, cp_frD, cp_frO, cp_truO, cp_tstB, cp_andT, cp_orT, cp_notT, cp_notX, cp_andO, cp_orO, cp_ifE, cp_chX, cp_noO, cp_ptO, cp_slX, cp_tupX, cp_lstX, cp_dic0X, cp_itX, cp_enX, cp_rg1, cp_gN, cp_asgS, cp_forS, cp_loopS_cons, cp_callX, cp_appF, cp_mkX, cp_fldS, cp_attX, cp_raiseS1, cp_raiseS0, cp_tryS, cp_muX, cp_muN, cp_mtX, cp_hasOw_eq, cp_gSubD, cp_parS, cp_kwX, cp_yesT, cp_compX, cp_compL_cons, ↓e]
    try rfl
  | true =>
    rw [q] at e
    obtain ⟨w, n, rfl⟩ := part_split q
    have hn : PD 1000 n := by
      cases h with
      | tup _ hd => exact hd n (by simp)
    have i1 := in_tup (z := w) wrd false
    have nn := isnP hn
    have v : partP (.tup [.str w, n]) = (wrd.contains w && nmP n) := rfl
    rw [v]
    cases c : wrd.contains w with
    | true =>
      rw [c] at i1
      simp only [bR_ok, bR_exc, bR_bad, kR_ok, bS_ok, bS_exc, bS_bad, nS_nx, nS_rt, nS_exc, nS_bk, nS_ct, nS_bad, gS_nx, lS_nx, lS_ct, lS_bk, lS_rt, lS_exc, fS_rt, fS_nx, fS_exc, hS_nx, hS_rt, hS_exc, pR_ok, pR_exc, oR_some, oR_none, cR_true, cR_false, xS_ok, con_vl, con_sl, conS_nil, conS_cons, loopS_nil, compL_nil, handle_nil, handle_cons, ap_bodyF, takeR_ok, takeR_exc, nmS, coS, vaS, vaA, vdS, vdA, mvS, frS, tsS, blO, ptS, muS, owB, gbS, gbD, flS, tkS, goneS, frz_fz, frz_ow, frz_oo, mine_no, mine_fz, mine_ow, mine_oo, owned_no, owned_fz, owned_ow, owned_oo, flag_no, flag_fz, flag_ow, flag_oo, give, back, argS, ownIx, wb, one, two, intS, blS, itemsD_lst, itemsD_tup, itemsD_scr, itemsD_str, enumD_lst, enumD_tup, numD_nil, numD_cons, truD_bl, truD_non, truD_int, truD_lst, truD_tup, attD, recOf, putFD, ap_gNilD, ap_gTupD, ap_gConsD, List.getElem?_cons_zero, List.getElem?_cons_succ, List.getElem?_nil, List.set_cons_zero, List.set_cons_succ, List.map_cons, List.map_nil, List.length_cons, List.length_nil, List.cons_append, List.nil_append, List.append_nil, List.replicate, List.getD_cons_zero, List.getD_cons_succ, List.getD_nil, List.nodup_nil, ite_true, ite_false, Bool.not_true, Bool.not_false, Bool.false_eq_true, reduceCtorEq, Nat.reduceSub, Nat.reduceAdd, List.nodup_cons, List.not_mem_nil, not_false_eq_true, and_self, and_true, true_and, decide_true, decide_false, List.take_succ_cons, List.take_zero, sizeLine_eq, Nat.zero_le, Nat.reduceLeDiff, Nat.reduceLT, Nat.reduceEqDiff, Bool.true_and, Bool.false_and, Bool.and_true, Bool.and_false, Bool.true_or, Bool.false_or, Bool.or_true, Bool.or_false, cp_bind, cp_pure, cp_bindS, cp_seqS, cp_nmO, cp_cO, cp_frzD, cp_frzO, cp_valO, cp_valD, cp_binX, cp_unX, cp_caX, cp_nilA, cp_consA, cp_nilD, cp_consD, cp_free_eq, cp_setS, cp_retS, cp_exprS, cp_ifS, cp_nxS, cp_retN, cp_mvX, cp_frD, cp_frO, cp_truO, cp_tstB, cp_andT, cp_orT, cp_notT, cp_notX, cp_andO, cp_orO, cp_ifE, cp_chX, cp_noO, cp_ptO, cp_slX, cp_tupX, cp_lstX, cp_dic0X, cp_itX, cp_enX, cp_rg1, cp_gN, cp_asgS, cp_forS, cp_loopS_cons, cp_callX, cp_appF, cp_mkX, cp_fldS, cp_attX, cp_raiseS1, cp_raiseS0, cp_tryS, cp_muX, cp_muN, cp_mtX, cp_hasOw_eq, cp_gSubD, cp_parS, cp_kwX, cp_yesT, cp_compX, cp_compL_cons, ↓e, wordsC, tup_ix0, tup_ix1, i1, nn, Bool.false_eq_true, if_false]
      try rfl
    | false =>
      rw [c] at i1
      simp only [bR_ok, bR_exc, bR_bad, kR_ok, bS_ok, bS_exc, bS_bad, nS_nx, nS_rt, nS_exc, nS_bk, nS_ct, nS_bad, gS_nx, lS_nx, lS_ct, lS_bk, lS_rt, lS_exc, fS_rt, fS_nx, fS_exc, hS_nx, hS_rt, hS_exc, pR_ok, pR_exc, oR_some, oR_none, cR_true, cR_false, xS_ok, con_vl, con_sl, conS_nil, conS_cons, loopS_nil, compL_nil, handle_nil, handle_cons, ap_bodyF, takeR_ok, takeR_exc, nmS, coS, vaS, vaA, vdS, vdA, mvS, frS, tsS, blO, ptS, muS, owB, gbS, gbD, flS, tkS, goneS, frz_fz, frz_ow, frz_oo, mine_no, mine_fz, mine_ow, mine_oo, owned_no, owned_fz, owned_ow, owned_oo, flag_no, flag_fz, flag_ow, flag_oo, give, back, argS, ownIx, wb, one, two, intS, blS, itemsD_lst, itemsD_tup, itemsD_scr, itemsD_str, enumD_lst, enumD_tup, numD_nil, numD_cons, truD_bl, truD_non, truD_int, truD_lst, truD_tup, attD, recOf, putFD, ap_gNilD, ap_gTupD, ap_gConsD, List.getElem?_cons_zero, List.getElem?_cons_succ, List.getElem?_nil, List.set_cons_zero, List.set_cons_succ, List.map_cons, List.map_nil, List.length_cons, List.length_nil, List.cons_append, List.nil_append, List.append_nil, List.replicate, List.getD_cons_zero, List.getD_cons_succ, List.getD_nil, List.nodup_nil, ite_true, ite_false, Bool.not_true, Bool.not_false, Bool.false_eq_true, reduceCtorEq, Nat.reduceSub, Nat.reduceAdd, List.nodup_cons, List.not_mem_nil, not_false_eq_true, and_self, and_true, true_and, decide_true, decide_false, List.take_succ_cons, List.take_zero, sizeLine_eq, Nat.zero_le, Nat.reduceLeDiff, Nat.reduceLT, Nat.reduceEqDiff, Bool.true_and, Bool.false_and, Bool.and_true, Bool.and_false, Bool.true_or, Bool.false_or, Bool.or_true, Bool.or_false, cp_bind, cp_pure, cp_bindS, cp_seqS, cp_nmO, cp_cO, cp_frzD, cp_frzO, cp_valO, cp_valD, cp_binX, cp_unX, cp_caX, cp_nilA, cp_consA, cp_nilD, cp_consD, cp_free_eq, cp_setS, cp_retS, cp_exprS, cp_ifS, cp_nxS, cp_retN, cp_mvX, cp_frD, cp_frO, cp_truO, cp_tstB, cp_andT, cp_orT, cp_notT, cp_notX, cp_andO, cp_orO, cp_ifE, cp_chX, cp_noO, cp_ptO, cp_slX, cp_tupX, cp_lstX, cp_dic0X, cp_itX, cp_enX, cp_rg1, cp_gN, cp_asgS, cp_forS, cp_loopS_cons, cp_callX, cp_appF, cp_mkX, cp_fldS, cp_attX, cp_raiseS1, cp_raiseS0, cp_tryS, cp_muX, cp_muN, cp_mtX, cp_hasOw_eq, cp_gSubD, cp_parS, cp_kwX, cp_yesT, cp_compX, cp_compL_cons, ↓e, wordsC, tup_ix0, i1, Bool.false_eq_true, if_false]
      try rfl
theorem decN {n m : Nat} : (decide ((1 : Int) ≤ n) && decide ((n : Int) ≤ (m : Nat))) = decide (1 ≤ n ∧ n ≤ m) := by
  rw [Bool.eq_iff_iff, Bool.and_eq_true, decide_eq_true_eq, decide_eq_true_eq, decide_eq_true_eq]
  omega
theorem chN {ds : List D} {m : Nat} {s : Sl} : chX leD leD (cO (.int 1)) (frzO (caX (one lenD) (consA (nmO 0) nilA))) (cO (.int (m : Nat))) [.fz (.tup ds), s] = .ok [.fz (.tup ds), s] (.fz (.bl (decide (1 ≤ ds.length ∧ ds.length ≤ m)))) := by
  rw [← decN]
  refine chInt rfl ?_ rfl
  simp only [bR_ok, bR_exc, bR_bad, kR_ok, bS_ok, bS_exc, bS_bad, nS_nx, nS_rt, nS_exc, nS_bk, nS_ct, nS_bad, gS_nx, lS_nx, lS_ct, lS_bk, lS_rt, lS_exc, fS_rt, fS_nx, fS_exc, hS_nx, hS_rt, hS_exc, pR_ok, pR_exc, oR_some, oR_none, cR_true, cR_false, xS_ok, con_vl, con_sl, conS_nil, conS_cons, loopS_nil, compL_nil, handle_nil, handle_cons, ap_bodyF, takeR_ok, takeR_exc, nmS, coS, vaS, vaA, vdS, vdA, mvS, frS, tsS, blO, ptS, muS, owB, gbS, gbD, flS, tkS, goneS, frz_fz, frz_ow, frz_oo, mine_no, mine_fz, mine_ow, mine_oo, owned_no, owned_fz, owned_ow, owned_oo, flag_no, flag_fz, flag_ow, flag_oo, give, back, argS, ownIx, wb, one, two, intS, blS, itemsD_lst, itemsD_tup, itemsD_scr, itemsD_str, enumD_lst, enumD_tup, numD_nil, numD_cons, truD_bl, truD_non, truD_int, truD_lst, truD_tup, attD, recOf, putFD, ap_gNilD, ap_gTupD, ap_gConsD, List.getElem?_cons_zero, List.getElem?_cons_succ, List.getElem?_nil, List.set_cons_zero, List.set_cons_succ, List.map_cons, List.map_nil, List.length_cons, List.length_nil, List.cons_append, List.nil_append, List.append_nil, List.replicate, List.getD_cons_zero, List.getD_cons_succ, List.getD_nil, List.nodup_nil, ite_true, ite_false, Bool.not_true, Bool.not_false, Bool.false_eq_true, reduceCtorEq, Nat.reduceSub, Nat.reduceAdd, List.nodup_cons, List.not_mem_nil, not_false_eq_true, and_self, and_true, true_and, decide_true, decide_false, List.take_succ_cons, List.take_zero, sizeLine_eq, Nat.zero_le, Nat.reduceLeDiff, Nat.reduceLT, Nat.reduceEqDiff, Bool.true_and, Bool.false_and, Bool.and_true, Bool.and_false, Bool.true_or, Bool.false_or, Bool.or_true, Bool.or_false, cp_bind, cp_pure, cp_bindS, cp_seqS, cp_nmO, cp_cO, cp_frzD, cp_frzO, cp_valO, cp_valD, cp_binX, cp_unX, cp_caX, cp_nilA, cp_consA, cp_nilD, cp_consD, cp_free_eq, cp_setS, cp_retS, cp_exprS, cp_ifS, cp_nxS, cp_retN, cp_mvX, cp_frD, cp_frO, cp_truO, cp_tstB, cp_andT, cp_orT, cp_notT, cp_notX, cp_andO, cp_orO, cp_ifE, cp_chX, cp_noO, cp_ptO, cp_slX, cp_tupX, cp_lstX, cp_dic0X, cp_itX, cp_enX, cp_rg1, cp_gN, cp_asgS, cp_forS, cp_loopS_cons, cp_callX, cp_appF, cp_mkX, cp_fldS, cp_attX, cp_raiseS1, cp_raiseS0, cp_tryS, cp_muX, cp_muN, cp_mtX, cp_hasOw_eq, cp_gSubD, cp_parS, cp_kwX, cp_yesT, cp_compX, cp_compL_cons, lenD_tup]
theorem parts_comp {ds : List D} (hl : ds.length ≤ 1000) (hd : ∀ d ∈ ds, PD 1000 d) : compX [1] (itX (frD 0)) (gN 1) yesT (frzD (callX F20 [] (consA (nmO 1) nilA))) [.fz (.tup ds), .no] = .ok [.fz (.tup ds), .no] (.ow false (ds.map fun x => .bl (partP x))) := by
  refine compX_map (ds := ds) (fun x => .bl (partP x)) (by simp only [bR_ok, bR_exc, bR_bad, kR_ok, bS_ok, bS_exc, bS_bad, nS_nx, nS_rt, nS_exc, nS_bk, nS_ct, nS_bad, gS_nx, lS_nx, lS_ct, lS_bk, lS_rt, lS_exc, fS_rt, fS_nx, fS_exc, hS_nx, hS_rt, hS_exc, pR_ok, pR_exc, oR_some, oR_none, cR_true, cR_false, xS_ok, con_vl, con_sl, conS_nil, conS_cons, loopS_nil, compL_nil, handle_nil, handle_cons, ap_bodyF, takeR_ok, takeR_exc, nmS, coS, vaS, vaA, vdS, vdA, mvS, frS, tsS, blO, ptS, muS, owB, gbS, gbD, flS, tkS, goneS, frz_fz, frz_ow, frz_oo, mine_no, mine_fz, mine_ow, mine_oo, owned_no, owned_fz, owned_ow, owned_oo, flag_no, flag_fz, flag_ow, flag_oo, give, back, argS, ownIx, wb, one, two, intS, blS, itemsD_lst, itemsD_tup, itemsD_scr, itemsD_str, enumD_lst, enumD_tup, numD_nil, numD_cons, truD_bl, truD_non, truD_int, truD_lst, truD_tup, attD, recOf, putFD, ap_gNilD, ap_gTupD, ap_gConsD, List.getElem?_cons_zero, List.getElem?_cons_succ, List.getElem?_nil, List.set_cons_zero, List.set_cons_succ, List.map_cons, List.map_nil, List.length_cons, List.length_nil, List.cons_append, List.nil_append, List.append_nil, List.replicate, List.getD_cons_zero, List.getD_cons_succ, List.getD_nil, List.nodup_nil, ite_true, ite_false, Bool.not_true, Bool.not_false, Bool.false_eq_true, reduceCtorEq, Nat.reduceSub, Nat.reduceAdd, List.nodup_cons, List.not_mem_nil, not_false_eq_true, and_self, and_true, true_and, decide_true, decide_false, List.take_succ_cons, List.take_zero, sizeLine_eq, Nat.zero_le, Nat.reduceLeDiff, Nat.reduceLT, Nat.reduceEqDiff, Bool.true_and, Bool.false_and, Bool.and_true, Bool.and_false, Bool.true_or, Bool.false_or, Bool.or_true, Bool.or_false, cp_bind, cp_pure, cp_bindS, cp_seqS, cp_nmO, cp_cO, cp_frzD, cp_frzO, cp_valO, cp_valD, cp_binX, cp_unX, cp_caX, cp_nilA, cp_consA, cp_nilD, cp_consD, cp_free_eq, cp_setS, cp_retS, cp_exprS, cp_ifS, cp_nxS, cp_retN, cp_mvX, cp_frD, cp_frO, cp_truO, cp_tstB, cp_andT, cp_orT, cp_notT, cp_notX, cp_andO, cp_orO, cp_ifE, cp_chX, cp_noO, cp_ptO, cp_slX, cp_tupX, cp_lstX, cp_dic0X, cp_itX, cp_enX, cp_rg1, cp_gN, cp_asgS, cp_forS, cp_loopS_cons, cp_callX, cp_appF, cp_mkX, cp_fldS, cp_attX, cp_raiseS1, cp_raiseS0, cp_tryS, cp_muX, cp_muN, cp_mtX, cp_hasOw_eq, cp_gSubD, cp_parS, cp_kwX, cp_yesT, cp_compX, cp_compL_cons]) (Nat.lt_of_le_of_lt hl (by decide)) rfl fun x hx => ?_
  refine ⟨[.fz (.tup ds), .fz x], [.fz (.tup ds), .fz x], rfl, ?_, rfl⟩
  simp only [bR_ok, bR_exc, bR_bad, kR_ok, bS_ok, bS_exc, bS_bad, nS_nx, nS_rt, nS_exc, nS_bk, nS_ct, nS_bad, gS_nx, lS_nx, lS_ct, lS_bk, lS_rt, lS_exc, fS_rt, fS_nx, fS_exc, hS_nx, hS_rt, hS_exc, pR_ok, pR_exc, oR_some, oR_none, cR_true, cR_false, xS_ok, con_vl, con_sl, conS_nil, conS_cons, loopS_nil, compL_nil, handle_nil, handle_cons, ap_bodyF, takeR_ok, takeR_exc, nmS, coS, vaS, vaA, vdS, vdA, mvS, frS, tsS, blO, ptS, muS, owB, gbS, gbD, flS, tkS, goneS, frz_fz, frz_ow, frz_oo, mine_no, mine_fz, mine_ow, mine_oo, owned_no, owned_fz, owned_ow, owned_oo, flag_no, flag_fz, flag_ow, flag_oo, give, back, argS, ownIx, wb, one, two, intS, blS, itemsD_lst, itemsD_tup, itemsD_scr, itemsD_str, enumD_lst, enumD_tup, numD_nil, numD_cons, truD_bl, truD_non, truD_int, truD_lst, truD_tup, attD, recOf, putFD, ap_gNilD, ap_gTupD, ap_gConsD, List.getElem?_cons_zero, List.getElem?_cons_succ, List.getElem?_nil, List.set_cons_zero, List.set_cons_succ, List.map_cons, List.map_nil, List.length_cons, List.length_nil, List.cons_append, List.nil_append, List.append_nil, List.replicate, List.getD_cons_zero, List.getD_cons_succ, List.getD_nil, List.nodup_nil, ite_true, ite_false, Bool.not_true, Bool.not_false, Bool.false_eq_true, reduceCtorEq, Nat.reduceSub, Nat.reduceAdd, List.nodup_cons, List.not_mem_nil, not_false_eq_true, and_self, and_true, true_and, decide_true, decide_false, List.take_succ_cons, List.take_zero, sizeLine_eq, Nat.zero_le, Nat.reduceLeDiff, Nat.reduceLT, Nat.reduceEqDiff, Bool.true_and, Bool.false_and, Bool.and_true, Bool.and_false, Bool.true_or, Bool.false_or, Bool.or_true, Bool.or_false, cp_bind, cp_pure, cp_bindS, cp_seqS, cp_nmO, cp_cO, cp_frzD, cp_frzO, cp_valO, cp_valD, cp_binX, cp_unX, cp_caX, cp_nilA, cp_consA, cp_nilD, cp_consD, cp_free_eq, cp_setS, cp_retS, cp_exprS, cp_ifS, cp_nxS, cp_retN, cp_mvX, cp_frD, cp_frO, cp_truO, cp_tstB, cp_andT, cp_orT, cp_notT, cp_notX, cp_andO, cp_orO, cp_ifE, cp_chX, cp_noO, cp_ptO, cp_slX, cp_tupX, cp_lstX, cp_dic0X, cp_itX, cp_enX, cp_rg1, cp_gN, cp_asgS, cp_forS, cp_loopS_cons, cp_callX, cp_appF, cp_mkX, cp_fldS, cp_attX, cp_raiseS1, cp_raiseS0, cp_tryS, cp_muX, cp_muN, cp_mtX, cp_hasOw_eq, cp_gSubD, cp_parS, cp_kwX, cp_yesT, cp_compX, cp_compL_cons, isPart (hd x hx)]
theorem areParts {d : D} (h : PD 1000 d) : F21 [.fz d] = .ok [.fz d] (.fz (.bl (partsP d))) := by
  by_cases c : ∃ ds, d = .tup ds
  · obtain ⟨ds, rfl⟩ := c
    cases h with
    | tup hl hd =>
      have e := chN (ds := ds) (m := 6) (s := .no)
      have i6 : (((6 : Nat) : Int)) = 6 := rfl
      rw [i6] at e
      have e2 := parts_comp hl hd
      have al := allD_map (f := partP) ds
      have v : partsP (.tup ds) = (decide (1 ≤ ds.length ∧ ds.length ≤ 6) && ds.all partP) := rfl
      rw [v]
      unfold F21 g21
      cases q : decide (1 ≤ ds.length ∧ ds.length ≤ 6) with
      | true =>
        rw [q] at e
        simp only [bR_ok, bR_exc, bR_bad, kR_ok, bS_ok, bS_exc, bS_bad, nS_nx, nS_rt, nS_exc, nS_bk, nS_ct, nS_bad, gS_nx, lS_nx, lS_ct, lS_bk, lS_rt, lS_exc, fS_rt, fS_nx, fS_exc, hS_nx, hS_rt, hS_exc, pR_ok, pR_exc, oR_some, oR_none, cR_true, cR_false, xS_ok, con_vl, con_sl, conS_nil, conS_cons, loopS_nil, compL_nil, handle_nil, handle_cons, ap_bodyF, takeR_ok, takeR_exc, nmS, coS, vaS, vaA, vdS, vdA, mvS, frS, tsS, blO, ptS, muS, owB, gbS, gbD, flS, tkS, goneS, frz_fz, frz_ow, frz_oo, mine_no, mine_fz, mine_ow, mine_oo, owned_no, owned_fz, owned_ow, owned_oo, flag_no, flag_fz, flag_ow, flag_oo, give, back, argS, ownIx, wb, one, two, intS, blS, itemsD_lst, itemsD_tup, itemsD_scr, itemsD_str, enumD_lst, enumD_tup, numD_nil, numD_cons, truD_bl, truD_non, truD_int, truD_lst, truD_tup, attD, recOf, putFD, ap_gNilD, ap_gTupD, ap_gConsD, List.getElem?_cons_zero, List.getElem?_cons_succ, List.getElem?_nil, List.set_cons_zero, List.set_cons_succ, List.map_cons, List.map_nil, List.length_cons, List.length_nil, List.cons_append, List.nil_append, List.append_nil, List.replicate, List.getD_cons_zero, List.getD_cons_succ, List.getD_nil, List.nodup_nil, ite_true, ite_false, Bool.not_true, Bool.not_false, Bool.false_eq_true, reduceCtorEq, Nat.reduceSub, Nat.reduceAdd, List.nodup_cons, List.not_mem_nil, not_false_eq_true, and_self, and_true, true_and, decide_true, decide_false, List.take_succ_cons, List.take_zero, sizeLine_eq, Nat.zero_le, Nat.reduceLeDiff, Nat.reduceLT, Nat.reduceEqDiff, Bool.true_and, Bool.false_and, Bool.and_true, Bool.and_false, Bool.true_or, Bool.false_or, Bool.or_true, Bool.or_false, cp_bind, cp_pure, cp_bindS, cp_seqS, cp_nmO, cp_cO, cp_frzD, cp_frzO, cp_valO, cp_valD, cp_binX, cp_unX, cp_caX, cp_nilA, cp_consA, cp_nilD, cp_consD, cp_free_eq, cp_setS, cp_retS, cp_exprS, cp_ifS, cp_nxS, cp_retN, cp_mvX, cp_frD, cp_frO, cp_truO, cp_tstB, cp_andT, cp_orT, cp_notT, cp_notX, cp_andO, cp_orO, cp_ifE, cp_chX, cp_noO, cp_ptO, cp_slX, cp_tupX, cp_lstX, cp_dic0X, cp_itX, cp_enX, cp_rg1, cp_gN, cp_asgS, cp_forS, cp_loopS_cons, cp_callX, cp_appF, cp_mkX, cp_fldS, cp_attX, cp_raiseS1, cp_raiseS0, cp_tryS, cp_muX, cp_muN, cp_mtX, cp_hasOw_eq, cp_gSubD, cp_parS, cp_kwX, cp_yesT, cp_compX, cp_compL_cons, tup_is, ↓e, ↓e2, al]
        try rfl
      | false =>
        rw [q] at e
        simp only [bR_ok, bR_exc, bR_bad, kR_ok, bS_ok, bS_exc, bS_bad, nS_nx, nS_rt, nS_exc, nS_bk, nS_ct, nS_bad, gS_nx, lS_nx, lS_ct, lS_bk, lS_rt, lS_exc, fS_rt, fS_nx, fS_exc, hS_nx, hS_rt, hS_exc, pR_ok, pR_exc, oR_some, oR_none, cR_true, cR_false, xS_ok, con_vl, con_sl, conS_nil, conS_cons, loopS_nil, compL_nil, handle_nil, handle_cons, ap_bodyF, takeR_ok, takeR_exc, nmS, coS, vaS, vaA, vdS, vdA, mvS, frS, tsS, blO, ptS, muS, owB, gbS, gbD, flS, tkS, goneS, frz_fz, frz_ow, frz_oo, mine_no, mine_fz, mine_ow, mine_oo, owned_no, owned_fz, owned_ow, owned_oo, flag_no, flag_fz, flag_ow, flag_oo, give, back, argS, ownIx, wb, one, two, intS, blS, itemsD_lst, itemsD_tup, itemsD_scr, itemsD_str, enumD_lst, enumD_tup, numD_nil, numD_cons, truD_bl, truD_non, truD_int, truD_lst, truD_tup, attD, recOf, putFD, ap_gNilD, ap_gTupD, ap_gConsD, List.getElem?_cons_zero, List.getElem?_cons_succ, List.getElem?_nil, List.set_cons_zero, List.set_cons_succ, List.map_cons, List.map_nil, List.length_cons, List.length_nil, List.cons_append, List.nil_append, List.append_nil, List.replicate, List.getD_cons_zero, List.getD_cons_succ, List.getD_nil, List.nodup_nil, ite_true, ite_false, Bool.not_true, Bool.not_false, Bool.false_eq_true, reduceCtorEq, Nat.reduceSub, Nat.reduceAdd, List.nodup_cons, List.not_mem_nil, not_false_eq_true, and_self, and_true, true_and, decide_true, decide_false, List.take_succ_cons, List.take_zero, sizeLine_eq, Nat.zero_le, Nat.reduceLeDiff, Nat.reduceLT, Nat.reduceEqDiff, Bool.true_and, Bool.false_and, Bool.and_true, Bool.and_false, Bool.true_or, Bool.false_or, Bool.or_true, Bool.or_false, cp_bind, cp_pure, cp_bindS, cp_seqS, cp_nmO, cp_cO, cp_frzD, cp_frzO, cp_valO, cp_valD, cp_binX, cp_unX, cp_caX, cp_nilA, cp_consA, cp_nilD, cp_consD, cp_free_eq, cp_setS, cp_retS, cp_exprS, cp_ifS, cp_nxS, cp_retN, cp_mvX, cp_frD, cp_frO, cp_truO, cp_tstB, cp_andT, cp_orT, cp_notT, cp_notX, cp_andO, cp_orO, cp_ifE, cp_chX, cp_noO, cp_ptO, cp_slX, cp_tupX, cp_lstX, cp_dic0X, cp_itX, cp_enX, cp_rg1, cp_gN, cp_asgS, cp_forS, cp_loopS_cons, cp_callX, cp_appF, cp_mkX, cp_fldS, cp_attX, cp_raiseS1, cp_raiseS0, cp_tryS, cp_muX, cp_muN, cp_mtX, cp_hasOw_eq, cp_gSubD, cp_parS, cp_kwX, cp_yesT, cp_compX, cp_compL_cons, tup_is, ↓e]
        try rfl
  · have c' : ∀ z, d ≠ .tup z := fun z q => c ⟨z, q⟩
    have t : partsP d = false := by
      cases d with
      | tup z => exact absurd rfl (c' z)
      | _ => rfl
    rw [t]
    unfold F21 g21
    simp only [bR_ok, bR_exc, bR_bad, kR_ok, bS_ok, bS_exc, bS_bad, nS_nx, nS_rt, nS_exc, nS_bk, nS_ct, nS_bad, gS_nx, lS_nx, lS_ct, lS_bk, lS_rt, lS_exc, fS_rt, fS_nx, fS_exc, hS_nx, hS_rt, hS_exc, pR_ok, pR_exc, oR_some, oR_none, cR_true, cR_false, xS_ok, con_vl, con_sl, conS_nil, conS_cons, loopS_nil, compL_nil, handle_nil, handle_cons, ap_bodyF, takeR_ok, takeR_exc, nmS, coS, vaS, vaA, vdS, vdA, mvS, frS, tsS, blO, ptS, muS, owB, gbS, gbD, flS, tkS, goneS, frz_fz, frz_ow, frz_oo, mine_no, mine_fz, mine_ow, mine_oo, owned_no, owned_fz, owned_ow, owned_oo, flag_no, flag_fz, flag_ow, flag_oo, give, back, argS, ownIx, wb, one, two, intS, blS, itemsD_lst, itemsD_tup, itemsD_scr, itemsD_str, enumD_lst, enumD_tup, numD_nil, numD_cons, truD_bl, truD_non, truD_int, truD_lst, truD_tup, attD, recOf, putFD, ap_gNilD, ap_gTupD, ap_gConsD, List.getElem?_cons_zero, List.getElem?_cons_succ, List.getElem?_nil, List.set_cons_zero, List.set_cons_succ, List.map_cons, List.map_nil, List.length_cons, List.length_nil, List.cons_append, List.nil_append, List.append_nil, List.replicate, List.getD_cons_zero, List.getD_cons_succ, List.getD_nil, List.nodup_nil, ite_true, ite_false, Bool.not_true, Bool.not_false, Bool.false_eq_true, reduceCtorEq, Nat.reduceSub, Nat.reduceAdd, List.nodup_cons, List.not_mem_nil, not_false_eq_true, and_self, and_true, true_and, decide_true, decide_false, List.take_succ_cons, List.take_zero, sizeLine_eq, Nat.zero_le, Nat.reduceLeDiff, Nat.reduceLT, Nat.reduceEqDiff, Bool.true_and, Bool.false_and, Bool.and_true, Bool.and_false, Bool.true_or, Bool.false_or, Bool.or_true, Bool.or_false, cp_bind, cp_pure, cp_bindS, cp_seqS, cp_nmO, cp_cO, cp_frzD, cp_frzO, cp_valO, cp_valD, cp_binX, cp_unX, cp_caX, cp_nilA, cp_consA, cp_nilD, cp_consD, cp_free_eq, cp_setS, cp_retS, cp_exprS, cp_ifS, cp_nxS, cp_retN, cp_mvX, cp_frD, cp_frO, cp_truO, cp_tstB, cp_andT, cp_orT, cp_notT, cp_notX, cp_andO, cp_orO, cp_ifE, cp_chX, cp_noO, cp_ptO, cp_slX, cp_tupX, cp_lstX, cp_dic0X, cp_itX, cp_enX, cp_rg1, cp_gN, cp_asgS, cp_forS, cp_loopS_cons, cp_callX, cp_appF, cp_mkX, cp_fldS, cp_attX, cp_raiseS1, cp_raiseS0, cp_tryS, cp_muX, cp_muN, cp_mtX, cp_hasOw_eq, cp_gSubD, cp_parS, cp_kwX, cp_yesT, cp_compX, cp_compL_cons, not_tup h c']
    try rfl
theorem whoms_comp {ds : List D} (hl : ds.length ≤ 1000) (hd : ∀ d ∈ ds, PD 1000 d) : compX [1] (itX (frD 0)) (gN 1) yesT (frzD (callX F21 [] (consA (nmO 1) nilA))) [.fz (.tup ds), .no] = .ok [.fz (.tup ds), .no] (.ow false (ds.map fun x => .bl (partsP x))) := by
  refine compX_map (ds := ds) (fun x => .bl (partsP x)) (by simp only [bR_ok, bR_exc, bR_bad, kR_ok, bS_ok, bS_exc, bS_bad, nS_nx, nS_rt, nS_exc, nS_bk, nS_ct, nS_bad, gS_nx, lS_nx, lS_ct, lS_bk, lS_rt, lS_exc, fS_rt, fS_nx, fS_exc, hS_nx, hS_rt, hS_exc, pR_ok, pR_exc, oR_some, oR_none, cR_true, cR_false, xS_ok, con_vl, con_sl, conS_nil, conS_cons, loopS_nil, compL_nil, handle_nil, handle_cons, ap_bodyF, takeR_ok, takeR_exc, nmS, coS, vaS, vaA, vdS, vdA, mvS, frS, tsS, blO, ptS, muS, owB, gbS, gbD, flS, tkS, goneS, frz_fz, frz_ow, frz_oo, mine_no, mine_fz, mine_ow, mine_oo, owned_no, owned_fz, owned_ow, owned_oo, flag_no, flag_fz, flag_ow, flag_oo, give, back, argS, ownIx, wb, one, two, intS, blS, itemsD_lst, itemsD_tup, itemsD_scr, itemsD_str, enumD_lst, enumD_tup, numD_nil, numD_cons, truD_bl, truD_non, truD_int, truD_lst, truD_tup, attD, recOf, putFD, ap_gNilD, ap_gTupD, ap_gConsD, List.getElem?_cons_zero, List.getElem?_cons_succ, List.getElem?_nil, List.set_cons_zero, List.set_cons_succ, List.map_cons, List.map_nil, List.length_cons, List.length_nil, List.cons_append, List.nil_append, List.append_nil, List.replicate, List.getD_cons_zero, List.getD_cons_succ, List.getD_nil, List.nodup_nil, ite_true, ite_false, Bool.not_true, Bool.not_false, Bool.false_eq_true, reduceCtorEq, Nat.reduceSub, Nat.reduceAdd, List.nodup_cons, List.not_mem_nil, not_false_eq_true, and_self, and_true, true_and, decide_true, decide_false, List.take_succ_cons, List.take_zero, sizeLine_eq, Nat.zero_le, Nat.reduceLeDiff, Nat.reduceLT, Nat.reduceEqDiff, Bool.true_and, Bool.false_and, Bool.and_true, Bool.and_false, Bool.true_or, Bool.false_or, Bool.or_true, Bool.or_false, cp_bind, cp_pure, cp_bindS, cp_seqS, cp_nmO, cp_cO, cp_frzD, cp_frzO, cp_valO, cp_valD, cp_binX, cp_unX, cp_caX, cp_nilA, cp_consA, cp_nilD, cp_consD, cp_free_eq, cp_setS, cp_retS, cp_exprS, cp_ifS, cp_nxS, cp_retN, cp_mvX, cp_frD, cp_frO, cp_truO, cp_tstB, cp_andT, cp_orT, cp_notT, cp_notX, cp_andO, cp_orO, cp_ifE, cp_chX, cp_noO, cp_ptO, cp_slX, cp_tupX, cp_lstX, cp_dic0X, cp_itX, cp_enX, cp_rg1, cp_gN, cp_asgS, cp_forS, cp_loopS_cons, cp_callX, cp_appF, cp_mkX, cp_fldS, cp_attX, cp_raiseS1, cp_raiseS0, cp_tryS, cp_muX, cp_muN, cp_mtX, cp_hasOw_eq, cp_gSubD, cp_parS, cp_kwX, cp_yesT, cp_compX, cp_compL_cons]) (Nat.lt_of_le_of_lt hl (by decide)) rfl fun x hx => ?_
  refine ⟨[.fz (.tup ds), .fz x], [.fz (.tup ds), .fz x], rfl, ?_, rfl⟩
  simp only [bR_ok, bR_exc, bR_bad, kR_ok, bS_ok, bS_exc, bS_bad, nS_nx, nS_rt, nS_exc, nS_bk, nS_ct, nS_bad, gS_nx, lS_nx, lS_ct, lS_bk, lS_rt, lS_exc, fS_rt, fS_nx, fS_exc, hS_nx, hS_rt, hS_exc, pR_ok, pR_exc, oR_some, oR_none, cR_true, cR_false, xS_ok, con_vl, con_sl, conS_nil, conS_cons, loopS_nil, compL_nil, handle_nil, handle_cons, ap_bodyF, takeR_ok, takeR_exc, nmS, coS, vaS, vaA, vdS, vdA, mvS, frS, tsS, blO, ptS, muS, owB, gbS, gbD, flS, tkS, goneS, frz_fz, frz_ow, frz_oo, mine_no, mine_fz, mine_ow, mine_oo, owned_no, owned_fz, owned_ow, owned_oo, flag_no, flag_fz, flag_ow, flag_oo, give, back, argS, ownIx, wb, one, two, intS, blS, itemsD_lst, itemsD_tup, itemsD_scr, itemsD_str, enumD_lst, enumD_tup, numD_nil, numD_cons, truD_bl, truD_non, truD_int, truD_lst, truD_tup, attD, recOf, putFD, ap_gNilD, ap_gTupD, ap_gConsD, List.getElem?_cons_zero, List.getElem?_cons_succ, List.getElem?_nil, List.set_cons_zero, List.set_cons_succ, List.map_cons, List.map_nil, List.length_cons, List.length_nil, List.cons_append, List.nil_append, List.append_nil, List.replicate, List.getD_cons_zero, List.getD_cons_succ, List.getD_nil, List.nodup_nil, ite_true, ite_false, Bool.not_true, Bool.not_false, Bool.false_eq_true, reduceCtorEq, Nat.reduceSub, Nat.reduceAdd, List.nodup_cons, List.not_mem_nil, not_false_eq_true, and_self, and_true, true_and, decide_true, decide_false, List.take_succ_cons, List.take_zero, sizeLine_eq, Nat.zero_le, Nat.reduceLeDiff, Nat.reduceLT, Nat.reduceEqDiff, Bool.true_and, Bool.false_and, Bool.and_true, Bool.and_false, Bool.true_or, Bool.false_or, Bool.or_true, Bool.or_false, cp_bind, cp_pure, cp_bindS, cp_seqS, cp_nmO, cp_cO, cp_frzD, cp_frzO, cp_valO, cp_valD, cp_binX, cp_unX, cp_caX, cp_nilA, cp_consA, cp_nilD, cp_consD, cp_free_eq, cp_setS, cp_retS, cp_exprS, cp_ifS, cp_nxS, cp_retN, cp_mvX, cp_frD, cp_frO, cp_truO, cp_tstB, cp_andT, cp_orT, cp_notT, cp_notX, cp_andO, cp_orO, cp_ifE, cp_chX, cp_noO, cp_ptO, cp_slX, cp_tupX, cp_lstX, cp_dic0X, cp_itX, cp_enX, cp_rg1, cp_gN, cp_asgS, cp_forS, cp_loopS_cons, cp_callX, cp_appF, cp_mkX, cp_fldS, cp_attX, cp_raiseS1, cp_raiseS0, cp_tryS, cp_muX, cp_muN, cp_mtX, cp_hasOw_eq, cp_gSubD, cp_parS, cp_kwX, cp_yesT, cp_compX, cp_compL_cons, areParts (hd x hx)]
theorem isWhom {d : D} (h : PD 1000 d) : F22 [.fz d] = .ok [.fz d] (.fz (.bl (whomP d))) := by
  by_cases c : ∃ ds, d = .tup ds
  · obtain ⟨ds, rfl⟩ := c
    cases h with
    | tup hl hd =>
      have e := chN (ds := ds) (m := 4) (s := .no)
      have i6 : (((4 : Nat) : Int)) = 4 := rfl
      rw [i6] at e
      have e2 := whoms_comp hl hd
      have al := allD_map (f := partsP) ds
      have v : whomP (.tup ds) = (decide (1 ≤ ds.length ∧ ds.length ≤ 4) && ds.all partsP) := rfl
      rw [v]
      unfold F22 g22
      cases q : decide (1 ≤ ds.length ∧ ds.length ≤ 4) with
      | true =>
        rw [q] at e
        simp only [bR_ok, bR_exc, bR_bad, kR_ok, bS_ok, bS_exc, bS_bad, nS_nx, nS_rt, nS_exc, nS_bk, nS_ct, nS_bad, gS_nx, lS_nx, lS_ct, lS_bk, lS_rt, lS_exc, fS_rt, fS_nx, fS_exc, hS_nx, hS_rt, hS_exc, pR_ok, pR_exc, oR_some, oR_none, cR_true, cR_false, xS_ok, con_vl, con_sl, conS_nil, conS_cons, loopS_nil, compL_nil, handle_nil, handle_cons, ap_bodyF, takeR_ok, takeR_exc, nmS, coS, vaS, vaA, vdS, vdA, mvS, frS, tsS, blO, ptS, muS, owB, gbS, gbD, flS, tkS, goneS, frz_fz, frz_ow, frz_oo, mine_no, mine_fz, mine_ow, mine_oo, owned_no, owned_fz, owned_ow, owned_oo, flag_no, flag_fz, flag_ow, flag_oo, give, back, argS, ownIx, wb, one, two, intS, blS, itemsD_lst, itemsD_tup, itemsD_scr, itemsD_str, enumD_lst, enumD_tup, numD_nil, numD_cons, truD_bl, truD_non, truD_int, truD_lst, truD_tup, attD, recOf, putFD, ap_gNilD, ap_gTupD, ap_gConsD, List.getElem?_cons_zero, List.getElem?_cons_succ, List.getElem?_nil, List.set_cons_zero, List.set_cons_succ, List.map_cons, List.map_nil, List.length_cons, List.length_nil, List.cons_append, List.nil_append, List.append_nil, List.replicate, List.getD_cons_zero, List.getD_cons_succ, List.getD_nil, List.nodup_nil, ite_true, ite_false, Bool.not_true, Bool.not_false, Bool.false_eq_true, reduceCtorEq, Nat.reduceSub, Nat.reduceAdd, List.nodup_cons, List.not_mem_nil, not_false_eq_true, and_self, and_true, true_and, decide_true, decide_false, List.take_succ_cons, List.take_zero, sizeLine_eq, Nat.zero_le, Nat.reduceLeDiff, Nat.reduceLT, Nat.reduceEqDiff, Bool.true_and, Bool.false_and, Bool.and_true, Bool.and_false, Bool.true_or, Bool.false_or, Bool.or_true, Bool.or_false, cp_bind, cp_pure, cp_bindS, cp_seqS, cp_nmO, cp_cO, cp_frzD, cp_frzO, cp_valO, cp_valD, cp_binX, cp_unX, cp_caX, cp_nilA, cp_consA, cp_nilD, cp_consD, cp_free_eq, cp_setS, cp_retS, cp_exprS, cp_ifS, cp_nxS, cp_retN, cp_mvX, cp_frD, cp_frO, cp_truO, cp_tstB, cp_andT, cp_orT, cp_notT, cp_notX, cp_andO, cp_orO, cp_ifE, cp_chX, cp_noO, cp_ptO, cp_slX, cp_tupX, cp_lstX, cp_dic0X, cp_itX, cp_enX, cp_rg1, cp_gN, cp_asgS, cp_forS, cp_loopS_cons, cp_callX, cp_appF, cp_mkX, cp_fldS, cp_attX, cp_raiseS1, cp_raiseS0, cp_tryS, cp_muX, cp_muN, cp_mtX, cp_hasOw_eq, cp_gSubD, cp_parS, cp_kwX, cp_yesT, cp_compX, cp_compL_cons, tup_is, ↓e, ↓e2, al]
        try rfl
      | false =>
        rw [q] at e
        simp only [bR_ok, bR_exc, bR_bad, kR_ok, bS_ok, bS_exc, bS_bad, nS_nx, nS_rt, nS_exc, nS_bk, nS_ct, nS_bad, gS_nx, lS_nx, lS_ct, lS_bk, lS_rt, lS_exc, fS_rt, fS_nx, fS_exc, hS_nx, hS_rt, hS_exc, pR_ok, pR_exc, oR_some, oR_none, cR_true, cR_false, xS_ok, con_vl, con_sl, conS_nil, conS_cons, loopS_nil, compL_nil, handle_nil, handle_cons, ap_bodyF, takeR_ok, takeR_exc, nmS, coS, vaS, vaA, vdS, vdA, mvS, frS, tsS, blO, ptS, muS, owB, gbS, gbD, flS, tkS, goneS, frz_fz, frz_ow, frz_oo, mine_no, mine_fz, mine_ow, mine_oo, owned_no, owned_fz, owned_ow, owned_oo, flag_no, flag_fz, flag_ow, flag_oo, give, back, argS, ownIx, wb, one, two, intS, blS, itemsD_lst, itemsD_tup, itemsD_scr, itemsD_str, enumD_lst, enumD_tup, numD_nil, numD_cons, truD_bl, truD_non, truD_int, truD_lst, truD_tup, attD, recOf, putFD, ap_gNilD, ap_gTupD, ap_gConsD, List.getElem?_cons_zero, List.getElem?_cons_succ, List.getElem?_nil, List.set_cons_zero, List.set_cons_succ, List.map_cons, List.map_nil, List.length_cons, List.length_nil, List.cons_append, List.nil_append, List.append_nil, List.replicate, List.getD_cons_zero, List.getD_cons_succ, List.getD_nil, List.nodup_nil, ite_true, ite_false, Bool.not_true, Bool.not_false, Bool.false_eq_true, reduceCtorEq, Nat.reduceSub, Nat.reduceAdd, List.nodup_cons, List.not_mem_nil, not_false_eq_true, and_self, and_true, true_and, decide_true, decide_false, List.take_succ_cons, List.take_zero, sizeLine_eq, Nat.zero_le, Nat.reduceLeDiff, Nat.reduceLT, Nat.reduceEqDiff, Bool.true_and, Bool.false_and, Bool.and_true, Bool.and_false, Bool.true_or, Bool.false_or, Bool.or_true, Bool.or_false, cp_bind, cp_pure, cp_bindS, cp_seqS, cp_nmO, cp_cO, cp_frzD, cp_frzO, cp_valO, cp_valD, cp_binX, cp_unX, cp_caX, cp_nilA, cp_consA, cp_nilD, cp_consD, cp_free_eq, cp_setS, cp_retS, cp_exprS, cp_ifS, cp_nxS, cp_retN, cp_mvX, cp_frD, cp_frO, cp_truO, cp_tstB, cp_andT, cp_orT, cp_notT, cp_notX, cp_andO, cp_orO, cp_ifE, cp_chX, cp_noO, cp_ptO, cp_slX, cp_tupX, cp_lstX, cp_dic0X, cp_itX, cp_enX, cp_rg1, cp_gN, cp_asgS, cp_forS, cp_loopS_cons, cp_callX, cp_appF, cp_mkX, cp_fldS, cp_attX, cp_raiseS1, cp_raiseS0, cp_tryS, cp_muX, cp_muN, cp_mtX, cp_hasOw_eq, cp_gSubD, cp_parS, cp_kwX, cp_yesT, cp_compX, cp_compL_cons, tup_is, ↓e]
        try rfl
  · have c' : ∀ z, d ≠ .tup z := fun z q => c ⟨z, q⟩
    have t : whomP d = false := by
      cases d with
      | tup z => exact absurd rfl (c' z)
      | _ => rfl
    rw [t]
    unfold F22 g22
    simp only [bR_ok, bR_exc, bR_bad, kR_ok, bS_ok, bS_exc, bS_bad, nS_nx, nS_rt, nS_exc, nS_bk, nS_ct, nS_bad, gS_nx, lS_nx, lS_ct, lS_bk, lS_rt, lS_exc, fS_rt, fS_nx, fS_exc, hS_nx, hS_rt, hS_exc, pR_ok, pR_exc, oR_some, oR_none, cR_true, cR_false, xS_ok, con_vl, con_sl, conS_nil, conS_cons, loopS_nil, compL_nil, handle_nil, handle_cons, ap_bodyF, takeR_ok, takeR_exc, nmS, coS, vaS, vaA, vdS, vdA, mvS, frS, tsS, blO, ptS, muS, owB, gbS, gbD, flS, tkS, goneS, frz_fz, frz_ow, frz_oo, mine_no, mine_fz, mine_ow, mine_oo, owned_no, owned_fz, owned_ow, owned_oo, flag_no, flag_fz, flag_ow, flag_oo, give, back, argS, ownIx, wb, one, two, intS, blS, itemsD_lst, itemsD_tup, itemsD_scr, itemsD_str, enumD_lst, enumD_tup, numD_nil, numD_cons, truD_bl, truD_non, truD_int, truD_lst, truD_tup, attD, recOf, putFD, ap_gNilD, ap_gTupD, ap_gConsD, List.getElem?_cons_zero, List.getElem?_cons_succ, List.getElem?_nil, List.set_cons_zero, List.set_cons_succ, List.map_cons, List.map_nil, List.length_cons, List.length_nil, List.cons_append, List.nil_append, List.append_nil, List.replicate, List.getD_cons_zero, List.getD_cons_succ, List.getD_nil, List.nodup_nil, ite_true, ite_false, Bool.not_true, Bool.not_false, Bool.false_eq_true, reduceCtorEq, Nat.reduceSub, Nat.reduceAdd, List.nodup_cons, List.not_mem_nil, not_false_eq_true, and_self, and_true, true_and, decide_true, decide_false, List.take_succ_cons, List.take_zero, sizeLine_eq, Nat.zero_le, Nat.reduceLeDiff, Nat.reduceLT, Nat.reduceEqDiff, Bool.true_and, Bool.false_and, Bool.and_true, Bool.and_false, Bool.true_or, Bool.false_or, Bool.or_true, Bool.or_false, cp_bind, cp_pure, cp_bindS, cp_seqS, cp_nmO, cp_cO, cp_frzD, cp_frzO, cp_valO, cp_valD, cp_binX, cp_unX, cp_caX, cp_nilA, cp_consA, cp_nilD, cp_consD, cp_free_eq, cp_setS, cp_retS, cp_exprS, cp_ifS, cp_nxS, cp_retN, cp_mvX, cp_frD, cp_frO, cp_truO, cp_tstB, cp_andT, cp_orT, cp_notT, cp_notX, cp_andO, cp_orO, cp_ifE, cp_chX, cp_noO, cp_ptO, cp_slX, cp_tupX, cp_lstX, cp_dic0X, cp_itX, cp_enX, cp_rg1, cp_gN, cp_asgS, cp_forS, cp_loopS_cons, cp_callX, cp_appF, cp_mkX, cp_fldS, cp_attX, cp_raiseS1, cp_raiseS0, cp_tryS, cp_muX, cp_muN, cp_mtX, cp_hasOw_eq, cp_gSubD, cp_parS, cp_kwX, cp_yesT, cp_compX, cp_compL_cons, not_tup h c']
    try rfl
/-! ### the law's look -/
theorem ltI {i j : Int} : ltD (.int i) (.int j) = some (.fz (.bl (decide (i < j)))) := rfl
theorem gtI {i j : Int} : gtD (.int i) (.int j) = some (.fz (.bl (decide (j < i)))) := rfl
theorem lisn (z : Str) (hz : z.length ≤ 1000) : F62 [.fz (.str z)] = .ok [.fz (.str z)] (.fz (.bl (nameB z))) := by
  have e0 : ∃ ws : List D, (∀ ρ0, lstX (consD (valD (cO (.str "all"))) (consD (valD (cO (.str "and"))) (consD (valD (cO (.str "children"))) (consD (valD (cO (.str "childless"))) (consD (valD (cO (.str "crown"))) (consD (valD (cO (.str "else"))) (consD (valD (cO (.str "if"))) (consD (valD (cO (.str "lives"))) (consD (valD (cO (.str "not"))) (consD (valD (cO (.str "of"))) (consD (valD (cO (.str "or"))) (consD (valD (cO (.str "stock"))) (consD (valD (cO (.str "to"))) nilD))))))))))))) ρ0 = .ok ρ0 (.ow false ws)) ∧ flatsD ws = some wordsV := ⟨_, fun _ => rfl, by kernel_rfl⟩
  obtain ⟨ws, e0, ew⟩ := e0
  have ei : inD false (.str z) (.lst ws) = some (.fz (.bl (inV (.str z) wordsV))) := by
    show inSeq false (.str z) ws = _
    unfold inSeq
    rw [ew]
    rfl
  have e4 := comp_abc (ρ := [.fz (.str z), .ow false ws, .no]) 0 2 hz rfl (fun _ => rfl) rfl (fun _ => rfl) (fun _ => rfl)
  unfold F62 g62 nameB
  have l := lenD_str hz
  by_cases c1 : z.length < 1
  · have q1 : decide ((z.length : Int) < 1) = true := decide_eq_true (by omega)
    have q2 : decide ((1 : Int) ≤ z.length) = false := decide_eq_false (by omega)
    simp only [↓e0, str_is, l, ltI, q1, q2, bR_ok, bR_exc, bR_bad, kR_ok, bS_ok, bS_exc, bS_bad, nS_nx, nS_rt, nS_exc, nS_bk, nS_ct, nS_bad, gS_nx, lS_nx, lS_ct, lS_bk, lS_rt, lS_exc, fS_rt, fS_nx, fS_exc, hS_nx, hS_rt, hS_exc, pR_ok, pR_exc, oR_some, oR_none, cR_true, cR_false, xS_ok, con_vl, con_sl, conS_nil, conS_cons, loopS_nil, compL_nil, handle_nil, handle_cons, ap_bodyF, takeR_ok, takeR_exc, nmS, coS, vaS, vaA, vdS, vdA, mvS, frS, tsS, blO, ptS, muS, owB, gbS, gbD, flS, tkS, goneS, frz_fz, frz_ow, frz_oo, mine_no, mine_fz, mine_ow, mine_oo, owned_no, owned_fz, owned_ow, owned_oo, flag_no, flag_fz, flag_ow, flag_oo, give, back, argS, ownIx, wb, one, two, intS, blS, itemsD_lst, itemsD_tup, itemsD_scr, itemsD_str, enumD_lst, enumD_tup, numD_nil, numD_cons, truD_bl, truD_non, truD_int, truD_lst, truD_tup, attD, recOf, putFD, ap_gNilD, ap_gTupD, ap_gConsD, List.getElem?_cons_zero, List.getElem?_cons_succ, List.getElem?_nil, List.set_cons_zero, List.set_cons_succ, List.map_cons, List.map_nil, List.length_cons, List.length_nil, List.cons_append, List.nil_append, List.append_nil, List.replicate, List.getD_cons_zero, List.getD_cons_succ, List.getD_nil, List.nodup_nil, ite_true, ite_false, Bool.not_true, Bool.not_false, Bool.false_eq_true, reduceCtorEq, Nat.reduceSub, Nat.reduceAdd, List.nodup_cons, List.not_mem_nil, not_false_eq_true, and_self, and_true, true_and, decide_true, decide_false, List.take_succ_cons, List.take_zero, sizeLine_eq, Nat.zero_le, Nat.reduceLeDiff, Nat.reduceLT, Nat.reduceEqDiff, Bool.true_and, Bool.false_and, Bool.and_true, Bool.and_false, Bool.true_or, Bool.false_or, Bool.or_true, Bool.or_false, cp_bind, cp_pure, cp_bindS, cp_seqS, cp_nmO, cp_cO, cp_frzD, cp_frzO, cp_valO, cp_valD, cp_binX, cp_unX, cp_caX, cp_nilA, cp_consA, cp_nilD, cp_consD, cp_free_eq, cp_setS, cp_retS, cp_exprS, cp_ifS, cp_nxS, cp_retN, cp_mvX, cp_frD, cp_frO, cp_truO, cp_tstB, cp_andT, cp_orT, cp_notT, cp_notX, cp_andO, cp_orO, cp_ifE, cp_chX, cp_noO, cp_ptO, cp_slX, cp_tupX, cp_lstX, cp_dic0X, cp_itX, cp_enX, cp_rg1, cp_gN, cp_asgS, cp_forS, cp_loopS_cons, cp_callX, cp_appF, cp_mkX, cp_fldS, cp_attX, cp_raiseS1, cp_raiseS0, cp_tryS, cp_muX, cp_muN, cp_mtX, cp_hasOw_eq, cp_gSubD, cp_parS, cp_kwX, cp_yesT, cp_compX, cp_compL_cons]
    try rfl
  · have q1 : decide ((z.length : Int) < 1) = false := decide_eq_false (by omega)
    have q2 : decide ((1 : Int) ≤ z.length) = true := decide_eq_true (by omega)
    by_cases c2 : 8 < z.length
    · have q3 : decide ((8 : Int) < z.length) = true := decide_eq_true (by omega)
      have q4 : decide ((z.length : Int) ≤ 8) = false := decide_eq_false (by omega)
      simp only [↓e0, str_is, l, ltI, gtI, q1, q2, q3, q4, bR_ok, bR_exc, bR_bad, kR_ok, bS_ok, bS_exc, bS_bad, nS_nx, nS_rt, nS_exc, nS_bk, nS_ct, nS_bad, gS_nx, lS_nx, lS_ct, lS_bk, lS_rt, lS_exc, fS_rt, fS_nx, fS_exc, hS_nx, hS_rt, hS_exc, pR_ok, pR_exc, oR_some, oR_none, cR_true, cR_false, xS_ok, con_vl, con_sl, conS_nil, conS_cons, loopS_nil, compL_nil, handle_nil, handle_cons, ap_bodyF, takeR_ok, takeR_exc, nmS, coS, vaS, vaA, vdS, vdA, mvS, frS, tsS, blO, ptS, muS, owB, gbS, gbD, flS, tkS, goneS, frz_fz, frz_ow, frz_oo, mine_no, mine_fz, mine_ow, mine_oo, owned_no, owned_fz, owned_ow, owned_oo, flag_no, flag_fz, flag_ow, flag_oo, give, back, argS, ownIx, wb, one, two, intS, blS, itemsD_lst, itemsD_tup, itemsD_scr, itemsD_str, enumD_lst, enumD_tup, numD_nil, numD_cons, truD_bl, truD_non, truD_int, truD_lst, truD_tup, attD, recOf, putFD, ap_gNilD, ap_gTupD, ap_gConsD, List.getElem?_cons_zero, List.getElem?_cons_succ, List.getElem?_nil, List.set_cons_zero, List.set_cons_succ, List.map_cons, List.map_nil, List.length_cons, List.length_nil, List.cons_append, List.nil_append, List.append_nil, List.replicate, List.getD_cons_zero, List.getD_cons_succ, List.getD_nil, List.nodup_nil, ite_true, ite_false, Bool.not_true, Bool.not_false, Bool.false_eq_true, reduceCtorEq, Nat.reduceSub, Nat.reduceAdd, List.nodup_cons, List.not_mem_nil, not_false_eq_true, and_self, and_true, true_and, decide_true, decide_false, List.take_succ_cons, List.take_zero, sizeLine_eq, Nat.zero_le, Nat.reduceLeDiff, Nat.reduceLT, Nat.reduceEqDiff, Bool.true_and, Bool.false_and, Bool.and_true, Bool.and_false, Bool.true_or, Bool.false_or, Bool.or_true, Bool.or_false, cp_bind, cp_pure, cp_bindS, cp_seqS, cp_nmO, cp_cO, cp_frzD, cp_frzO, cp_valO, cp_valD, cp_binX, cp_unX, cp_caX, cp_nilA, cp_consA, cp_nilD, cp_consD, cp_free_eq, cp_setS, cp_retS, cp_exprS, cp_ifS, cp_nxS, cp_retN, cp_mvX, cp_frD, cp_frO, cp_truO, cp_tstB, cp_andT, cp_orT, cp_notT, cp_notX, cp_andO, cp_orO, cp_ifE, cp_chX, cp_noO, cp_ptO, cp_slX, cp_tupX, cp_lstX, cp_dic0X, cp_itX, cp_enX, cp_rg1, cp_gN, cp_asgS, cp_forS, cp_loopS_cons, cp_callX, cp_appF, cp_mkX, cp_fldS, cp_attX, cp_raiseS1, cp_raiseS0, cp_tryS, cp_muX, cp_muN, cp_mtX, cp_hasOw_eq, cp_gSubD, cp_parS, cp_kwX, cp_yesT, cp_compX, cp_compL_cons]
      try rfl
    · have q3 : decide ((8 : Int) < z.length) = false := decide_eq_false (by omega)
      have q4 : decide ((z.length : Int) ≤ 8) = true := decide_eq_true (by omega)
      cases q : inV (.str z) wordsV with
      | true =>
        rw [q] at ei
        simp only [↓e0, str_is, l, ltI, gtI, q1, q2, q3, q4, ei, bR_ok, bR_exc, bR_bad, kR_ok, bS_ok, bS_exc, bS_bad, nS_nx, nS_rt, nS_exc, nS_bk, nS_ct, nS_bad, gS_nx, lS_nx, lS_ct, lS_bk, lS_rt, lS_exc, fS_rt, fS_nx, fS_exc, hS_nx, hS_rt, hS_exc, pR_ok, pR_exc, oR_some, oR_none, cR_true, cR_false, xS_ok, con_vl, con_sl, conS_nil, conS_cons, loopS_nil, compL_nil, handle_nil, handle_cons, ap_bodyF, takeR_ok, takeR_exc, nmS, coS, vaS, vaA, vdS, vdA, mvS, frS, tsS, blO, ptS, muS, owB, gbS, gbD, flS, tkS, goneS, frz_fz, frz_ow, frz_oo, mine_no, mine_fz, mine_ow, mine_oo, owned_no, owned_fz, owned_ow, owned_oo, flag_no, flag_fz, flag_ow, flag_oo, give, back, argS, ownIx, wb, one, two, intS, blS, itemsD_lst, itemsD_tup, itemsD_scr, itemsD_str, enumD_lst, enumD_tup, numD_nil, numD_cons, truD_bl, truD_non, truD_int, truD_lst, truD_tup, attD, recOf, putFD, ap_gNilD, ap_gTupD, ap_gConsD, List.getElem?_cons_zero, List.getElem?_cons_succ, List.getElem?_nil, List.set_cons_zero, List.set_cons_succ, List.map_cons, List.map_nil, List.length_cons, List.length_nil, List.cons_append, List.nil_append, List.append_nil, List.replicate, List.getD_cons_zero, List.getD_cons_succ, List.getD_nil, List.nodup_nil, ite_true, ite_false, Bool.not_true, Bool.not_false, Bool.false_eq_true, reduceCtorEq, Nat.reduceSub, Nat.reduceAdd, List.nodup_cons, List.not_mem_nil, not_false_eq_true, and_self, and_true, true_and, decide_true, decide_false, List.take_succ_cons, List.take_zero, sizeLine_eq, Nat.zero_le, Nat.reduceLeDiff, Nat.reduceLT, Nat.reduceEqDiff, Bool.true_and, Bool.false_and, Bool.and_true, Bool.and_false, Bool.true_or, Bool.false_or, Bool.or_true, Bool.or_false, cp_bind, cp_pure, cp_bindS, cp_seqS, cp_nmO, cp_cO, cp_frzD, cp_frzO, cp_valO, cp_valD, cp_binX, cp_unX, cp_caX, cp_nilA, cp_consA, cp_nilD, cp_consD, cp_free_eq, cp_setS, cp_retS, cp_exprS, cp_ifS, cp_nxS, cp_retN, cp_mvX, cp_frD, cp_frO, cp_truO, cp_tstB, cp_andT, cp_orT, cp_notT, cp_notX, cp_andO, cp_orO, cp_ifE, cp_chX, cp_noO, cp_ptO, cp_slX, cp_tupX, cp_lstX, cp_dic0X, cp_itX, cp_enX, cp_rg1, cp_gN, cp_asgS, cp_forS, cp_loopS_cons, cp_callX, cp_appF, cp_mkX, cp_fldS, cp_attX, cp_raiseS1, cp_raiseS0, cp_tryS, cp_muX, cp_muN, cp_mtX, cp_hasOw_eq, cp_gSubD, cp_parS, cp_kwX, cp_yesT, cp_compX, cp_compL_cons]
        try rfl
      | false =>
        rw [q] at ei
        simp only [↓e0, str_is, l, ltI, gtI, q1, q2, q3, q4, ei, ↓e4, allD_bl, bR_ok, bR_exc, bR_bad, kR_ok, bS_ok, bS_exc, bS_bad, nS_nx, nS_rt, nS_exc, nS_bk, nS_ct, nS_bad, gS_nx, lS_nx, lS_ct, lS_bk, lS_rt, lS_exc, fS_rt, fS_nx, fS_exc, hS_nx, hS_rt, hS_exc, pR_ok, pR_exc, oR_some, oR_none, cR_true, cR_false, xS_ok, con_vl, con_sl, conS_nil, conS_cons, loopS_nil, compL_nil, handle_nil, handle_cons, ap_bodyF, takeR_ok, takeR_exc, nmS, coS, vaS, vaA, vdS, vdA, mvS, frS, tsS, blO, ptS, muS, owB, gbS, gbD, flS, tkS, goneS, frz_fz, frz_ow, frz_oo, mine_no, mine_fz, mine_ow, mine_oo, owned_no, owned_fz, owned_ow, owned_oo, flag_no, flag_fz, flag_ow, flag_oo, give, back, argS, ownIx, wb, one, two, intS, blS, itemsD_lst, itemsD_tup, itemsD_scr, itemsD_str, enumD_lst, enumD_tup, numD_nil, numD_cons, truD_bl, truD_non, truD_int, truD_lst, truD_tup, attD, recOf, putFD, ap_gNilD, ap_gTupD, ap_gConsD, List.getElem?_cons_zero, List.getElem?_cons_succ, List.getElem?_nil, List.set_cons_zero, List.set_cons_succ, List.map_cons, List.map_nil, List.length_cons, List.length_nil, List.cons_append, List.nil_append, List.append_nil, List.replicate, List.getD_cons_zero, List.getD_cons_succ, List.getD_nil, List.nodup_nil, ite_true, ite_false, Bool.not_true, Bool.not_false, Bool.false_eq_true, reduceCtorEq, Nat.reduceSub, Nat.reduceAdd, List.nodup_cons, List.not_mem_nil, not_false_eq_true, and_self, and_true, true_and, decide_true, decide_false, List.take_succ_cons, List.take_zero, sizeLine_eq, Nat.zero_le, Nat.reduceLeDiff, Nat.reduceLT, Nat.reduceEqDiff, Bool.true_and, Bool.false_and, Bool.and_true, Bool.and_false, Bool.true_or, Bool.false_or, Bool.or_true, Bool.or_false, cp_bind, cp_pure, cp_bindS, cp_seqS, cp_nmO, cp_cO, cp_frzD, cp_frzO, cp_valO, cp_valD, cp_binX, cp_unX, cp_caX, cp_nilA, cp_consA, cp_nilD, cp_consD, cp_free_eq, cp_setS, cp_retS, cp_exprS, cp_ifS, cp_nxS, cp_retN, cp_mvX, cp_frD, cp_frO, cp_truO, cp_tstB, cp_andT, cp_orT, cp_notT, cp_notX, cp_andO, cp_orO, cp_ifE, cp_chX, cp_noO, cp_ptO, cp_slX, cp_tupX, cp_lstX, cp_dic0X, cp_itX, cp_enX, cp_rg1, cp_gN, cp_asgS, cp_forS, cp_loopS_cons, cp_callX, cp_appF, cp_mkX, cp_fldS, cp_attX, cp_raiseS1, cp_raiseS0, cp_tryS, cp_muX, cp_muN, cp_mtX, cp_hasOw_eq, cp_gSubD, cp_parS, cp_kwX, cp_yesT, cp_compX, cp_compL_cons]
        try rfl
theorem lisnP {d : D} (h : PD 1000 d) : F62 [.fz d] = .ok [.fz d] (.fz (.bl (nmP d))) := by
  cases h with
  | str k => exact lisn _ k
  | _ => kernel_rfl
theorem loop_all {t : D → So} {body : So} {P : D → Bool} {I : List Sl → Prop} {v : Sl} : ∀ (ds : List D) (ρ : List Sl), I ρ → (∀ d ∈ ds, ∀ ρ, I ρ → ∃ ρ1 ρ2, t d ρ = .nx ρ1 ∧ I ρ2 ∧ body ρ1 = if P d = true then .nx ρ2 else .rt ρ2 v) → ∃ ρ', I ρ' ∧ loopS t body ds ρ = if ds.all P = true then .nx ρ' else .rt ρ' v
  | [], ρ, h, _ => ⟨ρ, h, by rw [loopS_nil]; rfl⟩
  | d :: ds, ρ, h, st => by
    obtain ⟨ρ1, ρ2, e1, h2, e2⟩ := st d (by simp) ρ h
    rw [loopS_cons, e1, gS_nx, e2]
    cases q : P d with
    | true =>
      obtain ⟨ρ', h3, e3⟩ := loop_all ds ρ2 h2 fun d' hd => st d' (by simp [hd])
      refine ⟨ρ', h3, ?_⟩
      rw [if_pos rfl, lS_nx, e3, List.all_cons, q, Bool.true_and]
    | false =>
      refine ⟨ρ2, h2, ?_⟩
      rw [if_neg (by simp), lS_rt, List.all_cons, q, Bool.false_and, if_neg (by simp)]
def dueB2 : So := (seqS (ifS (orT (notT (truO (frzO (caX isiF (consA (nmO 2) (consA (cO (.ty "tuple")) nilA)))))) (orT (tstB (binX (eq2D true) (frzO (caX (one lenD) (consA (nmO 2) nilA))) (cO (.int 2)))) (notT (truO (frzO (caX isiF (consA (frzO (binX ixD (nmO 2) (cO (.int 0)))) (consA (cO (.ty "str")) nilA)))))))) (retS (valO (cO (.bl false)))) nxS) (ifS (orT (tstB (binX (inD true) (frzO (binX ixD (nmO 2) (cO (.int 0)))) (frzO (lstX (consD (valD (cO (.str "one"))) (consD (valD (cO (.str "children"))) (consD (valD (cO (.str "stock"))) nilD))))))) (notT (truO (frzO (callX F62 [] (consA (frzO (binX ixD (nmO 2) (cO (.int 1)))) nilA)))))) (retS (valO (cO (.bl false)))) nxS))
def dueB1 : So := (seqS (ifS (orT (notT (truO (frzO (caX isiF (consA (nmO 1) (consA (cO (.ty "tuple")) nilA)))))) (tstB (binX (inD true) (frzO (caX (one lenD) (consA (nmO 1) nilA))) (frzO (lstX (consD (valD (cO (.int 1))) (consD (valD (cO (.int 2))) (consD (valD (cO (.int 3))) (consD (valD (cO (.int 4))) (consD (valD (cO (.int 5))) (consD (valD (cO (.int 6))) nilD))))))))))) (retS (valO (cO (.bl false)))) nxS) (forS (itX (frD 1)) (gN 2) (seqS (ifS (orT (notT (truO (frzO (caX isiF (consA (nmO 2) (consA (cO (.ty "tuple")) nilA)))))) (orT (tstB (binX (eq2D true) (frzO (caX (one lenD) (consA (nmO 2) nilA))) (cO (.int 2)))) (notT (truO (frzO (caX isiF (consA (frzO (binX ixD (nmO 2) (cO (.int 0)))) (consA (cO (.ty "str")) nilA)))))))) (retS (valO (cO (.bl false)))) nxS) (ifS (orT (tstB (binX (inD true) (frzO (binX ixD (nmO 2) (cO (.int 0)))) (frzO (lstX (consD (valD (cO (.str "one"))) (consD (valD (cO (.str "children"))) (consD (valD (cO (.str "stock"))) nilD))))))) (notT (truO (frzO (callX F62 [] (consA (frzO (binX ixD (nmO 2) (cO (.int 1)))) nilA)))))) (retS (valO (cO (.bl false)))) nxS))))
theorem wrdL (ρ : List Sl) : frzO (lstX (consD (valD (cO (.str "one"))) (consD (valD (cO (.str "children"))) (consD (valD (cO (.str "stock"))) nilD)))) ρ = .ok ρ (.vl (.lst (wrd.map D.str))) := by kernel_rfl
theorem due2 {t u d : D} (h : PD 1000 d) : dueB2 [.fz t, .fz u, .fz d] = if partP d = true then .nx [.fz t, .fz u, .fz d] else .rt [.fz t, .fz u, .fz d] (.fz (.bl false)) := by
  have e := partG2 h (t := t) (u := u)
  unfold partG at e
  unfold dueB2
  cases q : twoS d with
  | false =>
    rw [q] at e
    rw [part_not q, if_neg (by simp)]
    simp only [bR_ok, bR_exc, bR_bad, kR_ok, bS_ok, bS_exc, bS_bad, nS_nx, nS_rt, nS_exc, nS_bk, nS_ct, nS_bad, gS_nx, lS_nx, lS_ct, lS_bk, lS_rt, lS_exc, fS_rt, fS_nx, fS_exc, hS_nx, hS_rt, hS_exc, pR_ok, pR_exc, oR_some, oR_none, cR_true, cR_false, xS_ok, con_vl, con_sl, conS_nil, conS_cons, loopS_nil, compL_nil, handle_nil, handle_cons, ap_bodyF, takeR_ok, takeR_exc, nmS, coS, vaS, vaA, vdS, vdA, mvS, frS, tsS, blO, ptS, muS, owB, gbS, gbD, flS, tkS, goneS, frz_fz, frz_ow, frz_oo, mine_no, mine_fz, mine_ow, mine_oo, owned_no, owned_fz, owned_ow, owned_oo, flag_no, flag_fz, flag_ow, flag_oo, give, back, argS, ownIx, wb, one, two, intS, blS, itemsD_lst, itemsD_tup, itemsD_scr, itemsD_str, enumD_lst, enumD_tup, numD_nil, numD_cons, truD_bl, truD_non, truD_int, truD_lst, truD_tup, attD, recOf, putFD, ap_gNilD, ap_gTupD, ap_gConsD, List.getElem?_cons_zero, List.getElem?_cons_succ, List.getElem?_nil, List.set_cons_zero, List.set_cons_succ, List.map_cons, List.map_nil, List.length_cons, List.length_nil, List.cons_append, List.nil_append, List.append_nil, List.replicate, List.getD_cons_zero, List.getD_cons_succ, List.getD_nil, List.nodup_nil, ite_true, ite_false, Bool.not_true, Bool.not_false, Bool.false_eq_true, reduceCtorEq, Nat.reduceSub, Nat.reduceAdd, List.nodup_cons, List.not_mem_nil, not_false_eq_true, and_self, and_true, true_and, decide_true, decide_false, List.take_succ_cons, List.take_zero, sizeLine_eq, Nat.zero_le, Nat.reduceLeDiff, Nat.reduceLT, Nat.reduceEqDiff, Bool.true_and, Bool.false_and, Bool.and_true, Bool.and_false, Bool.true_or, Bool.false_or, Bool.or_true, Bool.or_false, cp_bind, cp_pure, cp_bindS, cp_seqS, cp_nmO, cp_cO, cp_frzD, cp_frzO, cp_valO, cp_valD, cp_binX, cp_unX, cp_caX, cp_nilA, cp_consA, cp_nilD, cp_consD, cp_free_eq, cp_setS, cp_retS, cp_exprS, cp_ifS, cp_nxS, cp_retN, cp_mvX, cp_frD, cp_frO, cp_truO, cp_tstB, cp_andT, cp_orT, cp_notT, cp_notX, cp_andO, cp_orO, cp_ifE, cp_chX, cp_noO, cp_ptO, cp_slX, cp_tupX, cp_lstX, cp_dic0X, cp_itX, cp_enX, cp_rg1, cp_gN, cp_asgS, cp_forS, cp_loopS_cons, cp_callX, cp_appF, cp_mkX, cp_fldS, cp_attX, cp_raiseS1, cp_raiseS0, cp_tryS, cp_muX, cp_muN, cp_mtX, cp_hasOw_eq, cp_gSubD, cp_parS, cp_kwX, cp_yesT, cp_compX, cp_compL_cons, ↓e]
    try rfl
  | true =>
    rw [q] at e
    obtain ⟨w, n, rfl⟩ := part_split q
    have hn : PD 1000 n := by
      cases h with
      | tup _ hd => exact hd n (by simp)
    have i1 := in_lst (z := w) wrd true
    have nn := lisnP hn
    have v : partP (.tup [.str w, n]) = (wrd.contains w && nmP n) := rfl
    rw [v]
    cases c : wrd.contains w with
    | true =>
      rw [c] at i1
      cases c2 : nmP n with
      | true =>
        rw [c2] at nn
        simp only [bR_ok, bR_exc, bR_bad, kR_ok, bS_ok, bS_exc, bS_bad, nS_nx, nS_rt, nS_exc, nS_bk, nS_ct, nS_bad, gS_nx, lS_nx, lS_ct, lS_bk, lS_rt, lS_exc, fS_rt, fS_nx, fS_exc, hS_nx, hS_rt, hS_exc, pR_ok, pR_exc, oR_some, oR_none, cR_true, cR_false, xS_ok, con_vl, con_sl, conS_nil, conS_cons, loopS_nil, compL_nil, handle_nil, handle_cons, ap_bodyF, takeR_ok, takeR_exc, nmS, coS, vaS, vaA, vdS, vdA, mvS, frS, tsS, blO, ptS, muS, owB, gbS, gbD, flS, tkS, goneS, frz_fz, frz_ow, frz_oo, mine_no, mine_fz, mine_ow, mine_oo, owned_no, owned_fz, owned_ow, owned_oo, flag_no, flag_fz, flag_ow, flag_oo, give, back, argS, ownIx, wb, one, two, intS, blS, itemsD_lst, itemsD_tup, itemsD_scr, itemsD_str, enumD_lst, enumD_tup, numD_nil, numD_cons, truD_bl, truD_non, truD_int, truD_lst, truD_tup, attD, recOf, putFD, ap_gNilD, ap_gTupD, ap_gConsD, List.getElem?_cons_zero, List.getElem?_cons_succ, List.getElem?_nil, List.set_cons_zero, List.set_cons_succ, List.map_cons, List.map_nil, List.length_cons, List.length_nil, List.cons_append, List.nil_append, List.append_nil, List.replicate, List.getD_cons_zero, List.getD_cons_succ, List.getD_nil, List.nodup_nil, ite_true, ite_false, Bool.not_true, Bool.not_false, Bool.false_eq_true, reduceCtorEq, Nat.reduceSub, Nat.reduceAdd, List.nodup_cons, List.not_mem_nil, not_false_eq_true, and_self, and_true, true_and, decide_true, decide_false, List.take_succ_cons, List.take_zero, sizeLine_eq, Nat.zero_le, Nat.reduceLeDiff, Nat.reduceLT, Nat.reduceEqDiff, Bool.true_and, Bool.false_and, Bool.and_true, Bool.and_false, Bool.true_or, Bool.false_or, Bool.or_true, Bool.or_false, cp_bind, cp_pure, cp_bindS, cp_seqS, cp_nmO, cp_cO, cp_frzD, cp_frzO, cp_valO, cp_valD, cp_binX, cp_unX, cp_caX, cp_nilA, cp_consA, cp_nilD, cp_consD, cp_free_eq, cp_setS, cp_retS, cp_exprS, cp_ifS, cp_nxS, cp_retN, cp_mvX, cp_frD, cp_frO, cp_truO, cp_tstB, cp_andT, cp_orT, cp_notT, cp_notX, cp_andO, cp_orO, cp_ifE, cp_chX, cp_noO, cp_ptO, cp_slX, cp_tupX, cp_lstX, cp_dic0X, cp_itX, cp_enX, cp_rg1, cp_gN, cp_asgS, cp_forS, cp_loopS_cons, cp_callX, cp_appF, cp_mkX, cp_fldS, cp_attX, cp_raiseS1, cp_raiseS0, cp_tryS, cp_muX, cp_muN, cp_mtX, cp_hasOw_eq, cp_gSubD, cp_parS, cp_kwX, cp_yesT, cp_compX, cp_compL_cons, ↓e, ↓wrdL, tup_ix0, tup_ix1, i1, nn, if_true]
        try rfl
      | false =>
        rw [c2] at nn
        simp only [bR_ok, bR_exc, bR_bad, kR_ok, bS_ok, bS_exc, bS_bad, nS_nx, nS_rt, nS_exc, nS_bk, nS_ct, nS_bad, gS_nx, lS_nx, lS_ct, lS_bk, lS_rt, lS_exc, fS_rt, fS_nx, fS_exc, hS_nx, hS_rt, hS_exc, pR_ok, pR_exc, oR_some, oR_none, cR_true, cR_false, xS_ok, con_vl, con_sl, conS_nil, conS_cons, loopS_nil, compL_nil, handle_nil, handle_cons, ap_bodyF, takeR_ok, takeR_exc, nmS, coS, vaS, vaA, vdS, vdA, mvS, frS, tsS, blO, ptS, muS, owB, gbS, gbD, flS, tkS, goneS, frz_fz, frz_ow, frz_oo, mine_no, mine_fz, mine_ow, mine_oo, owned_no, owned_fz, owned_ow, owned_oo, flag_no, flag_fz, flag_ow, flag_oo, give, back, argS, ownIx, wb, one, two, intS, blS, itemsD_lst, itemsD_tup, itemsD_scr, itemsD_str, enumD_lst, enumD_tup, numD_nil, numD_cons, truD_bl, truD_non, truD_int, truD_lst, truD_tup, attD, recOf, putFD, ap_gNilD, ap_gTupD, ap_gConsD, List.getElem?_cons_zero, List.getElem?_cons_succ, List.getElem?_nil, List.set_cons_zero, List.set_cons_succ, List.map_cons, List.map_nil, List.length_cons, List.length_nil, List.cons_append, List.nil_append, List.append_nil, List.replicate, List.getD_cons_zero, List.getD_cons_succ, List.getD_nil, List.nodup_nil, ite_true, ite_false, Bool.not_true, Bool.not_false, Bool.false_eq_true, reduceCtorEq, Nat.reduceSub, Nat.reduceAdd, List.nodup_cons, List.not_mem_nil, not_false_eq_true, and_self, and_true, true_and, decide_true, decide_false, List.take_succ_cons, List.take_zero, sizeLine_eq, Nat.zero_le, Nat.reduceLeDiff, Nat.reduceLT, Nat.reduceEqDiff, Bool.true_and, Bool.false_and, Bool.and_true, Bool.and_false, Bool.true_or, Bool.false_or, Bool.or_true, Bool.or_false, cp_bind, cp_pure, cp_bindS, cp_seqS, cp_nmO, cp_cO, cp_frzD, cp_frzO, cp_valO, cp_valD, cp_binX, cp_unX, cp_caX, cp_nilA, cp_consA, cp_nilD, cp_consD, cp_free_eq, cp_setS, cp_retS, cp_exprS, cp_ifS, cp_nxS, cp_retN, cp_mvX, cp_frD, cp_frO, cp_truO, cp_tstB, cp_andT, cp_orT, cp_notT, cp_notX, cp_andO, cp_orO, cp_ifE, cp_chX, cp_noO, cp_ptO, cp_slX, cp_tupX, cp_lstX, cp_dic0X, cp_itX, cp_enX, cp_rg1, cp_gN, cp_asgS, cp_forS, cp_loopS_cons, cp_callX, cp_appF, cp_mkX, cp_fldS, cp_attX, cp_raiseS1, cp_raiseS0, cp_tryS, cp_muX, cp_muN, cp_mtX, cp_hasOw_eq, cp_gSubD, cp_parS, cp_kwX, cp_yesT, cp_compX, cp_compL_cons, ↓e, ↓wrdL, tup_ix0, tup_ix1, i1, nn, if_true]
        try rfl
    | false =>
      rw [c] at i1
      simp only [bR_ok, bR_exc, bR_bad, kR_ok, bS_ok, bS_exc, bS_bad, nS_nx, nS_rt, nS_exc, nS_bk, nS_ct, nS_bad, gS_nx, lS_nx, lS_ct, lS_bk, lS_rt, lS_exc, fS_rt, fS_nx, fS_exc, hS_nx, hS_rt, hS_exc, pR_ok, pR_exc, oR_some, oR_none, cR_true, cR_false, xS_ok, con_vl, con_sl, conS_nil, conS_cons, loopS_nil, compL_nil, handle_nil, handle_cons, ap_bodyF, takeR_ok, takeR_exc, nmS, coS, vaS, vaA, vdS, vdA, mvS, frS, tsS, blO, ptS, muS, owB, gbS, gbD, flS, tkS, goneS, frz_fz, frz_ow, frz_oo, mine_no, mine_fz, mine_ow, mine_oo, owned_no, owned_fz, owned_ow, owned_oo, flag_no, flag_fz, flag_ow, flag_oo, give, back, argS, ownIx, wb, one, two, intS, blS, itemsD_lst, itemsD_tup, itemsD_scr, itemsD_str, enumD_lst, enumD_tup, numD_nil, numD_cons, truD_bl, truD_non, truD_int, truD_lst, truD_tup, attD, recOf, putFD, ap_gNilD, ap_gTupD, ap_gConsD, List.getElem?_cons_zero, List.getElem?_cons_succ, List.getElem?_nil, List.set_cons_zero, List.set_cons_succ, List.map_cons, List.map_nil, List.length_cons, List.length_nil, List.cons_append, List.nil_append, List.append_nil, List.replicate, List.getD_cons_zero, List.getD_cons_succ, List.getD_nil, List.nodup_nil, ite_true, ite_false, Bool.not_true, Bool.not_false, Bool.false_eq_true, reduceCtorEq, Nat.reduceSub, Nat.reduceAdd, List.nodup_cons, List.not_mem_nil, not_false_eq_true, and_self, and_true, true_and, decide_true, decide_false, List.take_succ_cons, List.take_zero, sizeLine_eq, Nat.zero_le, Nat.reduceLeDiff, Nat.reduceLT, Nat.reduceEqDiff, Bool.true_and, Bool.false_and, Bool.and_true, Bool.and_false, Bool.true_or, Bool.false_or, Bool.or_true, Bool.or_false, cp_bind, cp_pure, cp_bindS, cp_seqS, cp_nmO, cp_cO, cp_frzD, cp_frzO, cp_valO, cp_valD, cp_binX, cp_unX, cp_caX, cp_nilA, cp_consA, cp_nilD, cp_consD, cp_free_eq, cp_setS, cp_retS, cp_exprS, cp_ifS, cp_nxS, cp_retN, cp_mvX, cp_frD, cp_frO, cp_truO, cp_tstB, cp_andT, cp_orT, cp_notT, cp_notX, cp_andO, cp_orO, cp_ifE, cp_chX, cp_noO, cp_ptO, cp_slX, cp_tupX, cp_lstX, cp_dic0X, cp_itX, cp_enX, cp_rg1, cp_gN, cp_asgS, cp_forS, cp_loopS_cons, cp_callX, cp_appF, cp_mkX, cp_fldS, cp_attX, cp_raiseS1, cp_raiseS0, cp_tryS, cp_muX, cp_muN, cp_mtX, cp_hasOw_eq, cp_gSubD, cp_parS, cp_kwX, cp_yesT, cp_compX, cp_compL_cons, ↓e, ↓wrdL, tup_ix0, i1, if_true]
      try rfl
def upT (n : Nat) : List D := (List.range n).map fun i : Nat => .int ((i : Int) + 1)
theorem l6 (ρ : List Sl) : frzO (lstX (consD (valD (cO (.int 1))) (consD (valD (cO (.int 2))) (consD (valD (cO (.int 3))) (consD (valD (cO (.int 4))) (consD (valD (cO (.int 5))) (consD (valD (cO (.int 6))) nilD))))))) ρ = .ok ρ (.vl (.lst (upT 6))) := by kernel_rfl
theorem l4 (ρ : List Sl) : frzO (lstX (consD (valD (cO (.int 1))) (consD (valD (cO (.int 2))) (consD (valD (cO (.int 3))) (consD (valD (cO (.int 4))) nilD))))) ρ = .ok ρ (.vl (.lst (upT 4))) := by kernel_rfl
theorem flats_up (m : Nat) : flatsD (upT m) = some ((List.range m).map fun i : Nat => V.int ((i : Int) + 1)) := by
  unfold upT
  generalize List.range m = l
  induction l with
  | nil => rfl
  | cons a l ih =>
    show (match flatD (.int ((a : Int) + 1)), flatsD (l.map fun i : Nat => D.int ((i : Int) + 1)) with | some v, some vs => some (v :: vs) | _, _ => none) = _
    rw [ih]
    rfl
theorem in_up {n m : Nat} : inD true (.int (n : Nat)) (.lst (upT m)) = some (.fz (.bl (!decide (1 ≤ n ∧ n ≤ m)))) := by
  show inSeq true (.int (n : Nat)) (upT m) = _
  unfold inSeq
  rw [flats_up]
  show blS (if true = true then !inV (.int (n : Nat)) _ else _) = _
  have : inV (.int (n : Nat)) ((List.range m).map fun i : Nat => V.int ((i : Int) + 1)) = decide (1 ≤ n ∧ n ≤ m) := by
    unfold inV
    rw [Bool.eq_iff_iff, List.any_eq_true, decide_eq_true_eq]
    constructor
    · rintro ⟨v, hv, e⟩
      obtain ⟨i, hi, rfl⟩ := List.mem_map.mp hv
      rw [List.mem_range] at hi
      have e' : ((i : Int) + 1 == (n : Int)) = true := e
      rw [beq_iff_eq] at e'
      omega
    · rintro ⟨h1, h2⟩
      refine ⟨V.int (((n - 1 : Nat) : Int) + 1), List.mem_map.mpr ⟨n - 1, List.mem_range.mpr (by omega), rfl⟩, ?_⟩
      show ((((n - 1 : Nat) : Int) + 1) == (n : Int)) = true
      rw [beq_iff_eq]
      omega
  rw [this, if_pos rfl]
  rfl
theorem due1 {t d : D} {s : Sl} (h : PD 1000 d) (hs : ∃ x : D, s = .fz x ∨ s = .no) : ∃ s' : Sl, (∃ x : D, s' = .fz x ∨ s' = .no) ∧ dueB1 [.fz t, .fz d, s] = if partsP d = true then .nx [.fz t, .fz d, s'] else .rt [.fz t, .fz d, s'] (.fz (.bl false)) := by
  have hm : s.mine = false := by
    obtain ⟨x, rfl | rfl⟩ := hs <;> rfl
  by_cases c : ∃ ds, d = .tup ds
  · obtain ⟨ds, rfl⟩ := c
    cases h with
    | tup hl hd =>
      have v : partsP (.tup ds) = (decide (1 ≤ ds.length ∧ ds.length ≤ 6) && ds.all partP) := rfl
      rw [v]
      have i1 := in_up (n := ds.length) (m := 6)
      have ld := lenD_tup (ds := ds)
      cases q : decide (1 ≤ ds.length ∧ ds.length ≤ 6) with
      | true =>
        rw [q] at i1
        obtain ⟨ρ', ⟨x, hx, e1⟩, e2⟩ := loop_all (t := gN 2) (body := dueB2) (P := partP) (I := fun ρ => ∃ x : Sl, (∃ y : D, x = .fz y ∨ x = .no) ∧ ρ = [.fz t, .fz (.tup ds), x]) (v := .fz (.bl false)) ds [.fz t, .fz (.tup ds), s] ⟨s, hs, rfl⟩ fun d hd' ρ hi => by
          obtain ⟨x, ⟨y, hy⟩, rfl⟩ := hi
          refine ⟨[.fz t, .fz (.tup ds), .fz d], [.fz t, .fz (.tup ds), .fz d], ?_, ⟨.fz d, ⟨d, .inl rfl⟩, rfl⟩, due2 (hd d hd')⟩
          rcases hy with rfl | rfl <;> rfl
        subst e1
        refine ⟨x, hx, ?_⟩
        unfold dueB2 at e2
        unfold dueB1
        generalize (ds.length : Int) = L at i1 ld
        rw [Bool.true_and]
        simp only [bR_ok, bR_exc, bR_bad, kR_ok, bS_ok, bS_exc, bS_bad, nS_nx, nS_rt, nS_exc, nS_bk, nS_ct, nS_bad, gS_nx, lS_nx, lS_ct, lS_bk, lS_rt, lS_exc, fS_rt, fS_nx, fS_exc, hS_nx, hS_rt, hS_exc, pR_ok, pR_exc, oR_some, oR_none, cR_true, cR_false, xS_ok, con_vl, con_sl, conS_nil, conS_cons, loopS_nil, compL_nil, handle_nil, handle_cons, ap_bodyF, takeR_ok, takeR_exc, nmS, coS, vaS, vaA, vdS, vdA, mvS, frS, tsS, blO, ptS, muS, owB, gbS, gbD, flS, tkS, goneS, frz_fz, frz_ow, frz_oo, mine_no, mine_fz, mine_ow, mine_oo, owned_no, owned_fz, owned_ow, owned_oo, flag_no, flag_fz, flag_ow, flag_oo, give, back, argS, ownIx, wb, one, two, intS, blS, itemsD_lst, itemsD_tup, itemsD_scr, itemsD_str, enumD_lst, enumD_tup, numD_nil, numD_cons, truD_bl, truD_non, truD_int, truD_lst, truD_tup, attD, recOf, putFD, ap_gNilD, ap_gTupD, ap_gConsD, List.getElem?_cons_zero, List.getElem?_cons_succ, List.getElem?_nil, List.set_cons_zero, List.set_cons_succ, List.map_cons, List.map_nil, List.length_cons, List.length_nil, List.cons_append, List.nil_append, List.append_nil, List.replicate, List.getD_cons_zero, List.getD_cons_succ, List.getD_nil, List.nodup_nil, ite_true, ite_false, Bool.not_true, Bool.not_false, Bool.false_eq_true, reduceCtorEq, Nat.reduceSub, Nat.reduceAdd, List.nodup_cons, List.not_mem_nil, not_false_eq_true, and_self, and_true, true_and, decide_true, decide_false, List.take_succ_cons, List.take_zero, sizeLine_eq, Nat.zero_le, Nat.reduceLeDiff, Nat.reduceLT, Nat.reduceEqDiff, Bool.true_and, Bool.false_and, Bool.and_true, Bool.and_false, Bool.true_or, Bool.false_or, Bool.or_true, Bool.or_false, cp_bind, cp_pure, cp_bindS, cp_seqS, cp_nmO, cp_cO, cp_frzD, cp_frzO, cp_valO, cp_valD, cp_binX, cp_unX, cp_caX, cp_nilA, cp_consA, cp_nilD, cp_consD, cp_free_eq, cp_setS, cp_retS, cp_exprS, cp_ifS, cp_nxS, cp_retN, cp_mvX, cp_frD, cp_frO, cp_truO, cp_tstB, cp_andT, cp_orT, cp_notT, cp_notX, cp_andO, cp_orO, cp_ifE, cp_chX, cp_noO, cp_ptO, cp_slX, cp_tupX, cp_lstX, cp_dic0X, cp_itX, cp_enX, cp_rg1, cp_gN, cp_asgS, cp_forS, cp_loopS_cons, cp_callX, cp_appF, cp_mkX, cp_fldS, cp_attX, cp_raiseS1, cp_raiseS0, cp_tryS, cp_muX, cp_muN, cp_mtX, cp_hasOw_eq, cp_gSubD, cp_parS, cp_kwX, cp_yesT, cp_compX, cp_compL_cons, tup_is, ld, ↓l6, i1, ↓e2]
      | false =>
        rw [q] at i1
        refine ⟨s, hs, ?_⟩
        unfold dueB1
        generalize (ds.length : Int) = L at i1 ld
        rw [Bool.false_and, if_neg (by simp)]
        simp only [bR_ok, bR_exc, bR_bad, kR_ok, bS_ok, bS_exc, bS_bad, nS_nx, nS_rt, nS_exc, nS_bk, nS_ct, nS_bad, gS_nx, lS_nx, lS_ct, lS_bk, lS_rt, lS_exc, fS_rt, fS_nx, fS_exc, hS_nx, hS_rt, hS_exc, pR_ok, pR_exc, oR_some, oR_none, cR_true, cR_false, xS_ok, con_vl, con_sl, conS_nil, conS_cons, loopS_nil, compL_nil, handle_nil, handle_cons, ap_bodyF, takeR_ok, takeR_exc, nmS, coS, vaS, vaA, vdS, vdA, mvS, frS, tsS, blO, ptS, muS, owB, gbS, gbD, flS, tkS, goneS, frz_fz, frz_ow, frz_oo, mine_no, mine_fz, mine_ow, mine_oo, owned_no, owned_fz, owned_ow, owned_oo, flag_no, flag_fz, flag_ow, flag_oo, give, back, argS, ownIx, wb, one, two, intS, blS, itemsD_lst, itemsD_tup, itemsD_scr, itemsD_str, enumD_lst, enumD_tup, numD_nil, numD_cons, truD_bl, truD_non, truD_int, truD_lst, truD_tup, attD, recOf, putFD, ap_gNilD, ap_gTupD, ap_gConsD, List.getElem?_cons_zero, List.getElem?_cons_succ, List.getElem?_nil, List.set_cons_zero, List.set_cons_succ, List.map_cons, List.map_nil, List.length_cons, List.length_nil, List.cons_append, List.nil_append, List.append_nil, List.replicate, List.getD_cons_zero, List.getD_cons_succ, List.getD_nil, List.nodup_nil, ite_true, ite_false, Bool.not_true, Bool.not_false, Bool.false_eq_true, reduceCtorEq, Nat.reduceSub, Nat.reduceAdd, List.nodup_cons, List.not_mem_nil, not_false_eq_true, and_self, and_true, true_and, decide_true, decide_false, List.take_succ_cons, List.take_zero, sizeLine_eq, Nat.zero_le, Nat.reduceLeDiff, Nat.reduceLT, Nat.reduceEqDiff, Bool.true_and, Bool.false_and, Bool.and_true, Bool.and_false, Bool.true_or, Bool.false_or, Bool.or_true, Bool.or_false, cp_bind, cp_pure, cp_bindS, cp_seqS, cp_nmO, cp_cO, cp_frzD, cp_frzO, cp_valO, cp_valD, cp_binX, cp_unX, cp_caX, cp_nilA, cp_consA, cp_nilD, cp_consD, cp_free_eq, cp_setS, cp_retS, cp_exprS, cp_ifS, cp_nxS, cp_retN, cp_mvX, cp_frD, cp_frO, cp_truO, cp_tstB, cp_andT, cp_orT, cp_notT, cp_notX, cp_andO, cp_orO, cp_ifE, cp_chX, cp_noO, cp_ptO, cp_slX, cp_tupX, cp_lstX, cp_dic0X, cp_itX, cp_enX, cp_rg1, cp_gN, cp_asgS, cp_forS, cp_loopS_cons, cp_callX, cp_appF, cp_mkX, cp_fldS, cp_attX, cp_raiseS1, cp_raiseS0, cp_tryS, cp_muX, cp_muN, cp_mtX, cp_hasOw_eq, cp_gSubD, cp_parS, cp_kwX, cp_yesT, cp_compX, cp_compL_cons, tup_is, ld, ↓l6, i1]
  · have c' : ∀ z, d ≠ .tup z := fun z q => c ⟨z, q⟩
    have t' : partsP d = false := by
      cases d with
      | tup z => exact absurd rfl (c' z)
      | _ => rfl
    refine ⟨s, hs, ?_⟩
    rw [t', if_neg (by simp)]
    unfold dueB1
    simp only [bR_ok, bR_exc, bR_bad, kR_ok, bS_ok, bS_exc, bS_bad, nS_nx, nS_rt, nS_exc, nS_bk, nS_ct, nS_bad, gS_nx, lS_nx, lS_ct, lS_bk, lS_rt, lS_exc, fS_rt, fS_nx, fS_exc, hS_nx, hS_rt, hS_exc, pR_ok, pR_exc, oR_some, oR_none, cR_true, cR_false, xS_ok, con_vl, con_sl, conS_nil, conS_cons, loopS_nil, compL_nil, handle_nil, handle_cons, ap_bodyF, takeR_ok, takeR_exc, nmS, coS, vaS, vaA, vdS, vdA, mvS, frS, tsS, blO, ptS, muS, owB, gbS, gbD, flS, tkS, goneS, frz_fz, frz_ow, frz_oo, mine_no, mine_fz, mine_ow, mine_oo, owned_no, owned_fz, owned_ow, owned_oo, flag_no, flag_fz, flag_ow, flag_oo, give, back, argS, ownIx, wb, one, two, intS, blS, itemsD_lst, itemsD_tup, itemsD_scr, itemsD_str, enumD_lst, enumD_tup, numD_nil, numD_cons, truD_bl, truD_non, truD_int, truD_lst, truD_tup, attD, recOf, putFD, ap_gNilD, ap_gTupD, ap_gConsD, List.getElem?_cons_zero, List.getElem?_cons_succ, List.getElem?_nil, List.set_cons_zero, List.set_cons_succ, List.map_cons, List.map_nil, List.length_cons, List.length_nil, List.cons_append, List.nil_append, List.append_nil, List.replicate, List.getD_cons_zero, List.getD_cons_succ, List.getD_nil, List.nodup_nil, ite_true, ite_false, Bool.not_true, Bool.not_false, Bool.false_eq_true, reduceCtorEq, Nat.reduceSub, Nat.reduceAdd, List.nodup_cons, List.not_mem_nil, not_false_eq_true, and_self, and_true, true_and, decide_true, decide_false, List.take_succ_cons, List.take_zero, sizeLine_eq, Nat.zero_le, Nat.reduceLeDiff, Nat.reduceLT, Nat.reduceEqDiff, Bool.true_and, Bool.false_and, Bool.and_true, Bool.and_false, Bool.true_or, Bool.false_or, Bool.or_true, Bool.or_false, cp_bind, cp_pure, cp_bindS, cp_seqS, cp_nmO, cp_cO, cp_frzD, cp_frzO, cp_valO, cp_valD, cp_binX, cp_unX, cp_caX, cp_nilA, cp_consA, cp_nilD, cp_consD, cp_free_eq, cp_setS, cp_retS, cp_exprS, cp_ifS, cp_nxS, cp_retN, cp_mvX, cp_frD, cp_frO, cp_truO, cp_tstB, cp_andT, cp_orT, cp_notT, cp_notX, cp_andO, cp_orO, cp_ifE, cp_chX, cp_noO, cp_ptO, cp_slX, cp_tupX, cp_lstX, cp_dic0X, cp_itX, cp_enX, cp_rg1, cp_gN, cp_asgS, cp_forS, cp_loopS_cons, cp_callX, cp_appF, cp_mkX, cp_fldS, cp_attX, cp_raiseS1, cp_raiseS0, cp_tryS, cp_muX, cp_muN, cp_mtX, cp_hasOw_eq, cp_gSubD, cp_parS, cp_kwX, cp_yesT, cp_compX, cp_compL_cons, not_tup h c']
theorem dueE {d : D} (h : PD 1000 d) : F63 [.fz d] = .ok [.fz d] (.fz (.bl (whomP d))) := by
  by_cases c : ∃ ds, d = .tup ds
  · obtain ⟨ds, rfl⟩ := c
    cases h with
    | tup hl hd =>
      have v : whomP (.tup ds) = (decide (1 ≤ ds.length ∧ ds.length ≤ 4) && ds.all partsP) := rfl
      rw [v]
      have i1 := in_up (n := ds.length) (m := 4)
      have ld := lenD_tup (ds := ds)
      unfold F63 g63
      cases q : decide (1 ≤ ds.length ∧ ds.length ≤ 4) with
      | true =>
        rw [q] at i1
        obtain ⟨ρ', ⟨x, y, hx, hy, e1⟩, e2⟩ := loop_all (t := gN 1) (body := dueB1) (P := partsP) (I := fun ρ => ∃ x y : Sl, (∃ z : D, x = .fz z ∨ x = .no) ∧ (∃ z : D, y = .fz z ∨ y = .no) ∧ ρ = [.fz (.tup ds), x, y]) (v := .fz (.bl false)) ds [.fz (.tup ds), .no, .no] ⟨.no, .no, ⟨.non, .inr rfl⟩, ⟨.non, .inr rfl⟩, rfl⟩ fun d hd' ρ hi => by
          obtain ⟨x, y, ⟨z, hx⟩, hy, rfl⟩ := hi
          obtain ⟨s', hs, e⟩ := due1 (t := .tup ds) (hd d hd') hy
          refine ⟨[.fz (.tup ds), .fz d, y], [.fz (.tup ds), .fz d, s'], ?_, ⟨.fz d, s', ⟨d, .inl rfl⟩, hs, rfl⟩, e⟩
          rcases hx with rfl | rfl <;> rfl
        subst e1
        unfold dueB1 at e2
        generalize (ds.length : Int) = L at i1 ld
        rw [Bool.true_and]
        cases q2 : ds.all partsP with
        | true =>
          rw [q2, if_pos rfl] at e2
          simp only [bR_ok, bR_exc, bR_bad, kR_ok, bS_ok, bS_exc, bS_bad, nS_nx, nS_rt, nS_exc, nS_bk, nS_ct, nS_bad, gS_nx, lS_nx, lS_ct, lS_bk, lS_rt, lS_exc, fS_rt, fS_nx, fS_exc, hS_nx, hS_rt, hS_exc, pR_ok, pR_exc, oR_some, oR_none, cR_true, cR_false, xS_ok, con_vl, con_sl, conS_nil, conS_cons, loopS_nil, compL_nil, handle_nil, handle_cons, ap_bodyF, takeR_ok, takeR_exc, nmS, coS, vaS, vaA, vdS, vdA, mvS, frS, tsS, blO, ptS, muS, owB, gbS, gbD, flS, tkS, goneS, frz_fz, frz_ow, frz_oo, mine_no, mine_fz, mine_ow, mine_oo, owned_no, owned_fz, owned_ow, owned_oo, flag_no, flag_fz, flag_ow, flag_oo, give, back, argS, ownIx, wb, one, two, intS, blS, itemsD_lst, itemsD_tup, itemsD_scr, itemsD_str, enumD_lst, enumD_tup, numD_nil, numD_cons, truD_bl, truD_non, truD_int, truD_lst, truD_tup, attD, recOf, putFD, ap_gNilD, ap_gTupD, ap_gConsD, List.getElem?_cons_zero, List.getElem?_cons_succ, List.getElem?_nil, List.set_cons_zero, List.set_cons_succ, List.map_cons, List.map_nil, List.length_cons, List.length_nil, List.cons_append, List.nil_append, List.append_nil, List.replicate, List.getD_cons_zero, List.getD_cons_succ, List.getD_nil, List.nodup_nil, ite_true, ite_false, Bool.not_true, Bool.not_false, Bool.false_eq_true, reduceCtorEq, Nat.reduceSub, Nat.reduceAdd, List.nodup_cons, List.not_mem_nil, not_false_eq_true, and_self, and_true, true_and, decide_true, decide_false, List.take_succ_cons, List.take_zero, sizeLine_eq, Nat.zero_le, Nat.reduceLeDiff, Nat.reduceLT, Nat.reduceEqDiff, Bool.true_and, Bool.false_and, Bool.and_true, Bool.and_false, Bool.true_or, Bool.false_or, Bool.or_true, Bool.or_false, cp_bind, cp_pure, cp_bindS, cp_seqS, cp_nmO, cp_cO, cp_frzD, cp_frzO, cp_valO, cp_valD, cp_binX, cp_unX, cp_caX, cp_nilA, cp_consA, cp_nilD, cp_consD, cp_free_eq, cp_setS, cp_retS, cp_exprS, cp_ifS, cp_nxS, cp_retN, cp_mvX, cp_frD, cp_frO, cp_truO, cp_tstB, cp_andT, cp_orT, cp_notT, cp_notX, cp_andO, cp_orO, cp_ifE, cp_chX, cp_noO, cp_ptO, cp_slX, cp_tupX, cp_lstX, cp_dic0X, cp_itX, cp_enX, cp_rg1, cp_gN, cp_asgS, cp_forS, cp_loopS_cons, cp_callX, cp_appF, cp_mkX, cp_fldS, cp_attX, cp_raiseS1, cp_raiseS0, cp_tryS, cp_muX, cp_muN, cp_mtX, cp_hasOw_eq, cp_gSubD, cp_parS, cp_kwX, cp_yesT, cp_compX, cp_compL_cons, tup_is, ld, ↓l4, i1, ↓e2]
          try rfl
        | false =>
          rw [q2, if_neg (by simp)] at e2
          simp only [bR_ok, bR_exc, bR_bad, kR_ok, bS_ok, bS_exc, bS_bad, nS_nx, nS_rt, nS_exc, nS_bk, nS_ct, nS_bad, gS_nx, lS_nx, lS_ct, lS_bk, lS_rt, lS_exc, fS_rt, fS_nx, fS_exc, hS_nx, hS_rt, hS_exc, pR_ok, pR_exc, oR_some, oR_none, cR_true, cR_false, xS_ok, con_vl, con_sl, conS_nil, conS_cons, loopS_nil, compL_nil, handle_nil, handle_cons, ap_bodyF, takeR_ok, takeR_exc, nmS, coS, vaS, vaA, vdS, vdA, mvS, frS, tsS, blO, ptS, muS, owB, gbS, gbD, flS, tkS, goneS, frz_fz, frz_ow, frz_oo, mine_no, mine_fz, mine_ow, mine_oo, owned_no, owned_fz, owned_ow, owned_oo, flag_no, flag_fz, flag_ow, flag_oo, give, back, argS, ownIx, wb, one, two, intS, blS, itemsD_lst, itemsD_tup, itemsD_scr, itemsD_str, enumD_lst, enumD_tup, numD_nil, numD_cons, truD_bl, truD_non, truD_int, truD_lst, truD_tup, attD, recOf, putFD, ap_gNilD, ap_gTupD, ap_gConsD, List.getElem?_cons_zero, List.getElem?_cons_succ, List.getElem?_nil, List.set_cons_zero, List.set_cons_succ, List.map_cons, List.map_nil, List.length_cons, List.length_nil, List.cons_append, List.nil_append, List.append_nil, List.replicate, List.getD_cons_zero, List.getD_cons_succ, List.getD_nil, List.nodup_nil, ite_true, ite_false, Bool.not_true, Bool.not_false, Bool.false_eq_true, reduceCtorEq, Nat.reduceSub, Nat.reduceAdd, List.nodup_cons, List.not_mem_nil, not_false_eq_true, and_self, and_true, true_and, decide_true, decide_false, List.take_succ_cons, List.take_zero, sizeLine_eq, Nat.zero_le, Nat.reduceLeDiff, Nat.reduceLT, Nat.reduceEqDiff, Bool.true_and, Bool.false_and, Bool.and_true, Bool.and_false, Bool.true_or, Bool.false_or, Bool.or_true, Bool.or_false, cp_bind, cp_pure, cp_bindS, cp_seqS, cp_nmO, cp_cO, cp_frzD, cp_frzO, cp_valO, cp_valD, cp_binX, cp_unX, cp_caX, cp_nilA, cp_consA, cp_nilD, cp_consD, cp_free_eq, cp_setS, cp_retS, cp_exprS, cp_ifS, cp_nxS, cp_retN, cp_mvX, cp_frD, cp_frO, cp_truO, cp_tstB, cp_andT, cp_orT, cp_notT, cp_notX, cp_andO, cp_orO, cp_ifE, cp_chX, cp_noO, cp_ptO, cp_slX, cp_tupX, cp_lstX, cp_dic0X, cp_itX, cp_enX, cp_rg1, cp_gN, cp_asgS, cp_forS, cp_loopS_cons, cp_callX, cp_appF, cp_mkX, cp_fldS, cp_attX, cp_raiseS1, cp_raiseS0, cp_tryS, cp_muX, cp_muN, cp_mtX, cp_hasOw_eq, cp_gSubD, cp_parS, cp_kwX, cp_yesT, cp_compX, cp_compL_cons, tup_is, ld, ↓l4, i1, ↓e2]
          try rfl
      | false =>
        rw [q] at i1
        generalize (ds.length : Int) = L at i1 ld
        simp only [bR_ok, bR_exc, bR_bad, kR_ok, bS_ok, bS_exc, bS_bad, nS_nx, nS_rt, nS_exc, nS_bk, nS_ct, nS_bad, gS_nx, lS_nx, lS_ct, lS_bk, lS_rt, lS_exc, fS_rt, fS_nx, fS_exc, hS_nx, hS_rt, hS_exc, pR_ok, pR_exc, oR_some, oR_none, cR_true, cR_false, xS_ok, con_vl, con_sl, conS_nil, conS_cons, loopS_nil, compL_nil, handle_nil, handle_cons, ap_bodyF, takeR_ok, takeR_exc, nmS, coS, vaS, vaA, vdS, vdA, mvS, frS, tsS, blO, ptS, muS, owB, gbS, gbD, flS, tkS, goneS, frz_fz, frz_ow, frz_oo, mine_no, mine_fz, mine_ow, mine_oo, owned_no, owned_fz, owned_ow, owned_oo, flag_no, flag_fz, flag_ow, flag_oo, give, back, argS, ownIx, wb, one, two, intS, blS, itemsD_lst, itemsD_tup, itemsD_scr, itemsD_str, enumD_lst, enumD_tup, numD_nil, numD_cons, truD_bl, truD_non, truD_int, truD_lst, truD_tup, attD, recOf, putFD, ap_gNilD, ap_gTupD, ap_gConsD, List.getElem?_cons_zero, List.getElem?_cons_succ, List.getElem?_nil, List.set_cons_zero, List.set_cons_succ, List.map_cons, List.map_nil, List.length_cons, List.length_nil, List.cons_append, List.nil_append, List.append_nil, List.replicate, List.getD_cons_zero, List.getD_cons_succ, List.getD_nil, List.nodup_nil, ite_true, ite_false, Bool.not_true, Bool.not_false, Bool.false_eq_true, reduceCtorEq, Nat.reduceSub, Nat.reduceAdd, List.nodup_cons, List.not_mem_nil, not_false_eq_true, and_self, and_true, true_and, decide_true, decide_false, List.take_succ_cons, List.take_zero, sizeLine_eq, Nat.zero_le, Nat.reduceLeDiff, Nat.reduceLT, Nat.reduceEqDiff, Bool.true_and, Bool.false_and, Bool.and_true, Bool.and_false, Bool.true_or, Bool.false_or, Bool.or_true, Bool.or_false, cp_bind, cp_pure, cp_bindS, cp_seqS, cp_nmO, cp_cO, cp_frzD, cp_frzO, cp_valO, cp_valD, cp_binX, cp_unX, cp_caX, cp_nilA, cp_consA, cp_nilD, cp_consD, cp_free_eq, cp_setS, cp_retS, cp_exprS, cp_ifS, cp_nxS, cp_retN, cp_mvX, cp_frD, cp_frO, cp_truO, cp_tstB, cp_andT, cp_orT, cp_notT, cp_notX, cp_andO, cp_orO, cp_ifE, cp_chX, cp_noO, cp_ptO, cp_slX, cp_tupX, cp_lstX, cp_dic0X, cp_itX, cp_enX, cp_rg1, cp_gN, cp_asgS, cp_forS, cp_loopS_cons, cp_callX, cp_appF, cp_mkX, cp_fldS, cp_attX, cp_raiseS1, cp_raiseS0, cp_tryS, cp_muX, cp_muN, cp_mtX, cp_hasOw_eq, cp_gSubD, cp_parS, cp_kwX, cp_yesT, cp_compX, cp_compL_cons, tup_is, ld, ↓l4, i1]
        try rfl
  · have c' : ∀ z, d ≠ .tup z := fun z q => c ⟨z, q⟩
    have t' : whomP d = false := by
      cases d with
      | tup z => exact absurd rfl (c' z)
      | _ => rfl
    rw [t']
    unfold F63 g63
    simp only [bR_ok, bR_exc, bR_bad, kR_ok, bS_ok, bS_exc, bS_bad, nS_nx, nS_rt, nS_exc, nS_bk, nS_ct, nS_bad, gS_nx, lS_nx, lS_ct, lS_bk, lS_rt, lS_exc, fS_rt, fS_nx, fS_exc, hS_nx, hS_rt, hS_exc, pR_ok, pR_exc, oR_some, oR_none, cR_true, cR_false, xS_ok, con_vl, con_sl, conS_nil, conS_cons, loopS_nil, compL_nil, handle_nil, handle_cons, ap_bodyF, takeR_ok, takeR_exc, nmS, coS, vaS, vaA, vdS, vdA, mvS, frS, tsS, blO, ptS, muS, owB, gbS, gbD, flS, tkS, goneS, frz_fz, frz_ow, frz_oo, mine_no, mine_fz, mine_ow, mine_oo, owned_no, owned_fz, owned_ow, owned_oo, flag_no, flag_fz, flag_ow, flag_oo, give, back, argS, ownIx, wb, one, two, intS, blS, itemsD_lst, itemsD_tup, itemsD_scr, itemsD_str, enumD_lst, enumD_tup, numD_nil, numD_cons, truD_bl, truD_non, truD_int, truD_lst, truD_tup, attD, recOf, putFD, ap_gNilD, ap_gTupD, ap_gConsD, List.getElem?_cons_zero, List.getElem?_cons_succ, List.getElem?_nil, List.set_cons_zero, List.set_cons_succ, List.map_cons, List.map_nil, List.length_cons, List.length_nil, List.cons_append, List.nil_append, List.append_nil, List.replicate, List.getD_cons_zero, List.getD_cons_succ, List.getD_nil, List.nodup_nil, ite_true, ite_false, Bool.not_true, Bool.not_false, Bool.false_eq_true, reduceCtorEq, Nat.reduceSub, Nat.reduceAdd, List.nodup_cons, List.not_mem_nil, not_false_eq_true, and_self, and_true, true_and, decide_true, decide_false, List.take_succ_cons, List.take_zero, sizeLine_eq, Nat.zero_le, Nat.reduceLeDiff, Nat.reduceLT, Nat.reduceEqDiff, Bool.true_and, Bool.false_and, Bool.and_true, Bool.and_false, Bool.true_or, Bool.false_or, Bool.or_true, Bool.or_false, cp_bind, cp_pure, cp_bindS, cp_seqS, cp_nmO, cp_cO, cp_frzD, cp_frzO, cp_valO, cp_valD, cp_binX, cp_unX, cp_caX, cp_nilA, cp_consA, cp_nilD, cp_consD, cp_free_eq, cp_setS, cp_retS, cp_exprS, cp_ifS, cp_nxS, cp_retN, cp_mvX, cp_frD, cp_frO, cp_truO, cp_tstB, cp_andT, cp_orT, cp_notT, cp_notX, cp_andO, cp_orO, cp_ifE, cp_chX, cp_noO, cp_ptO, cp_slX, cp_tupX, cp_lstX, cp_dic0X, cp_itX, cp_enX, cp_rg1, cp_gN, cp_asgS, cp_forS, cp_loopS_cons, cp_callX, cp_appF, cp_mkX, cp_fldS, cp_attX, cp_raiseS1, cp_raiseS0, cp_tryS, cp_muX, cp_muN, cp_mtX, cp_hasOw_eq, cp_gSubD, cp_parS, cp_kwX, cp_yesT, cp_compX, cp_compL_cons, not_tup h c']
    try rfl
/-! ### refused, right -/
theorem chkW {d : D} (h : PD 1000 d) (c : whomP d = false) : F23 [.fz d] = .exc [.fz d] 8 [] := by
  have e1 := isWhom h
  rw [c] at e1
  unfold F23 g23
  simp only [bR_ok, bR_exc, bR_bad, kR_ok, bS_ok, bS_exc, bS_bad, nS_nx, nS_rt, nS_exc, nS_bk, nS_ct, nS_bad, gS_nx, lS_nx, lS_ct, lS_bk, lS_rt, lS_exc, fS_rt, fS_nx, fS_exc, hS_nx, hS_rt, hS_exc, pR_ok, pR_exc, oR_some, oR_none, cR_true, cR_false, xS_ok, con_vl, con_sl, conS_nil, conS_cons, loopS_nil, compL_nil, handle_nil, handle_cons, ap_bodyF, takeR_ok, takeR_exc, nmS, coS, vaS, vaA, vdS, vdA, mvS, frS, tsS, blO, ptS, muS, owB, gbS, gbD, flS, tkS, goneS, frz_fz, frz_ow, frz_oo, mine_no, mine_fz, mine_ow, mine_oo, owned_no, owned_fz, owned_ow, owned_oo, flag_no, flag_fz, flag_ow, flag_oo, give, back, argS, ownIx, wb, one, two, intS, blS, itemsD_lst, itemsD_tup, itemsD_scr, itemsD_str, enumD_lst, enumD_tup, numD_nil, numD_cons, truD_bl, truD_non, truD_int, truD_lst, truD_tup, attD, recOf, putFD, ap_gNilD, ap_gTupD, ap_gConsD, List.getElem?_cons_zero, List.getElem?_cons_succ, List.getElem?_nil, List.set_cons_zero, List.set_cons_succ, List.map_cons, List.map_nil, List.length_cons, List.length_nil, List.cons_append, List.nil_append, List.append_nil, List.replicate, List.getD_cons_zero, List.getD_cons_succ, List.getD_nil, List.nodup_nil, ite_true, ite_false, Bool.not_true, Bool.not_false, Bool.false_eq_true, reduceCtorEq, Nat.reduceSub, Nat.reduceAdd, List.nodup_cons, List.not_mem_nil, not_false_eq_true, and_self, and_true, true_and, decide_true, decide_false, List.take_succ_cons, List.take_zero, sizeLine_eq, Nat.zero_le, Nat.reduceLeDiff, Nat.reduceLT, Nat.reduceEqDiff, Bool.true_and, Bool.false_and, Bool.and_true, Bool.and_false, Bool.true_or, Bool.false_or, Bool.or_true, Bool.or_false, cp_bind, cp_pure, cp_bindS, cp_seqS, cp_nmO, cp_cO, cp_frzD, cp_frzO, cp_valO, cp_valD, cp_binX, cp_unX, cp_caX, cp_nilA, cp_consA, cp_nilD, cp_consD, cp_free_eq, cp_setS, cp_retS, cp_exprS, cp_ifS, cp_nxS, cp_retN, cp_mvX, cp_frD, cp_frO, cp_truO, cp_tstB, cp_andT, cp_orT, cp_notT, cp_notX, cp_andO, cp_orO, cp_ifE, cp_chX, cp_noO, cp_ptO, cp_slX, cp_tupX, cp_lstX, cp_dic0X, cp_itX, cp_enX, cp_rg1, cp_gN, cp_asgS, cp_forS, cp_loopS_cons, cp_callX, cp_appF, cp_mkX, cp_fldS, cp_attX, cp_raiseS1, cp_raiseS0, cp_tryS, cp_muX, cp_muN, cp_mtX, cp_hasOw_eq, cp_gSubD, cp_parS, cp_kwX, cp_yesT, cp_compX, cp_compL_cons, e1]
theorem takeW {h t x d : D} (hd : PD 1000 d) (c : whomP d = false) : F31 [.fz h, .fz d, .fz t, .fz x] = .exc [.fz h, .fz d, .fz t, .fz x] 8 [] := by
  unfold F31 g31
  simp only [bR_ok, bR_exc, bR_bad, kR_ok, bS_ok, bS_exc, bS_bad, nS_nx, nS_rt, nS_exc, nS_bk, nS_ct, nS_bad, gS_nx, lS_nx, lS_ct, lS_bk, lS_rt, lS_exc, fS_rt, fS_nx, fS_exc, hS_nx, hS_rt, hS_exc, pR_ok, pR_exc, oR_some, oR_none, cR_true, cR_false, xS_ok, con_vl, con_sl, conS_nil, conS_cons, loopS_nil, compL_nil, handle_nil, handle_cons, ap_bodyF, takeR_ok, takeR_exc, nmS, coS, vaS, vaA, vdS, vdA, mvS, frS, tsS, blO, ptS, muS, owB, gbS, gbD, flS, tkS, goneS, frz_fz, frz_ow, frz_oo, mine_no, mine_fz, mine_ow, mine_oo, owned_no, owned_fz, owned_ow, owned_oo, flag_no, flag_fz, flag_ow, flag_oo, give, back, argS, ownIx, wb, one, two, intS, blS, itemsD_lst, itemsD_tup, itemsD_scr, itemsD_str, enumD_lst, enumD_tup, numD_nil, numD_cons, truD_bl, truD_non, truD_int, truD_lst, truD_tup, attD, recOf, putFD, ap_gNilD, ap_gTupD, ap_gConsD, List.getElem?_cons_zero, List.getElem?_cons_succ, List.getElem?_nil, List.set_cons_zero, List.set_cons_succ, List.map_cons, List.map_nil, List.length_cons, List.length_nil, List.cons_append, List.nil_append, List.append_nil, List.replicate, List.getD_cons_zero, List.getD_cons_succ, List.getD_nil, List.nodup_nil, ite_true, ite_false, Bool.not_true, Bool.not_false, Bool.false_eq_true, reduceCtorEq, Nat.reduceSub, Nat.reduceAdd, List.nodup_cons, List.not_mem_nil, not_false_eq_true, and_self, and_true, true_and, decide_true, decide_false, List.take_succ_cons, List.take_zero, sizeLine_eq, Nat.zero_le, Nat.reduceLeDiff, Nat.reduceLT, Nat.reduceEqDiff, Bool.true_and, Bool.false_and, Bool.and_true, Bool.and_false, Bool.true_or, Bool.false_or, Bool.or_true, Bool.or_false, cp_bind, cp_pure, cp_bindS, cp_seqS, cp_nmO, cp_cO, cp_frzD, cp_frzO, cp_valO, cp_valD, cp_binX, cp_unX, cp_caX, cp_nilA, cp_consA, cp_nilD, cp_consD, cp_free_eq, cp_setS, cp_retS, cp_exprS, cp_ifS, cp_nxS, cp_retN, cp_mvX, cp_frD, cp_frO, cp_truO, cp_tstB, cp_andT, cp_orT, cp_notT, cp_notX, cp_andO, cp_orO, cp_ifE, cp_chX, cp_noO, cp_ptO, cp_slX, cp_tupX, cp_lstX, cp_dic0X, cp_itX, cp_enX, cp_rg1, cp_gN, cp_asgS, cp_forS, cp_loopS_cons, cp_callX, cp_appF, cp_mkX, cp_fldS, cp_attX, cp_raiseS1, cp_raiseS0, cp_tryS, cp_muX, cp_muN, cp_mtX, cp_hasOw_eq, cp_gSubD, cp_parS, cp_kwX, cp_yesT, cp_compX, cp_compL_cons, chkW hd c]
def houA : D := .obj 11 [("folk", .tup [.tup [.str "ann", .non]]), ("wares", .tup []), ("purse", .int 0), ("debts", .int 0)]
def stoA : D := .obj 12 [("deaths", .tup [])]
theorem houE (d : D) : frzO (mkX 11 F36 [.non, .int 0, .int 0] (consA (frzO (tupX (consD (frzD (tupX (consD (valD (cO (.str "ann"))) (consD (valD (cO .non)) nilD)))) nilD))) nilA)) [.fz d, .no] = .ok [.fz d, .no] (.vl houA) := by kernel_rfl
theorem stoE (d : D) : frzO (mkX 12 F51 [] (consA (frzO (tupX nilD)) nilA)) [.fz d, .no] = .ok [.fz d, .no] (.vl stoA) := by kernel_rfl
theorem cat8 : catF 10 8 = some true := by kernel_rfl
theorem is8 : isiF [.exc 8 [], .cls 8] = some (.fz (.bl true)) := by kernel_rfl
theorem refW {d : D} (hd : PD 1000 d) (c : whomP d = false) : F66 [.fz d] = .ok [.fz d] (.fz (.bl true)) := by
  unfold F66 g66
  simp only [bR_ok, bR_exc, bR_bad, kR_ok, bS_ok, bS_exc, bS_bad, nS_nx, nS_rt, nS_exc, nS_bk, nS_ct, nS_bad, gS_nx, lS_nx, lS_ct, lS_bk, lS_rt, lS_exc, fS_rt, fS_nx, fS_exc, hS_nx, hS_rt, hS_exc, pR_ok, pR_exc, oR_some, oR_none, cR_true, cR_false, xS_ok, con_vl, con_sl, conS_nil, conS_cons, loopS_nil, compL_nil, handle_nil, handle_cons, ap_bodyF, takeR_ok, takeR_exc, nmS, coS, vaS, vaA, vdS, vdA, mvS, frS, tsS, blO, ptS, muS, owB, gbS, gbD, flS, tkS, goneS, frz_fz, frz_ow, frz_oo, mine_no, mine_fz, mine_ow, mine_oo, owned_no, owned_fz, owned_ow, owned_oo, flag_no, flag_fz, flag_ow, flag_oo, give, back, argS, ownIx, wb, one, two, intS, blS, itemsD_lst, itemsD_tup, itemsD_scr, itemsD_str, enumD_lst, enumD_tup, numD_nil, numD_cons, truD_bl, truD_non, truD_int, truD_lst, truD_tup, attD, recOf, putFD, ap_gNilD, ap_gTupD, ap_gConsD, List.getElem?_cons_zero, List.getElem?_cons_succ, List.getElem?_nil, List.set_cons_zero, List.set_cons_succ, List.map_cons, List.map_nil, List.length_cons, List.length_nil, List.cons_append, List.nil_append, List.append_nil, List.replicate, List.getD_cons_zero, List.getD_cons_succ, List.getD_nil, List.nodup_nil, ite_true, ite_false, Bool.not_true, Bool.not_false, Bool.false_eq_true, reduceCtorEq, Nat.reduceSub, Nat.reduceAdd, List.nodup_cons, List.not_mem_nil, not_false_eq_true, and_self, and_true, true_and, decide_true, decide_false, List.take_succ_cons, List.take_zero, sizeLine_eq, Nat.zero_le, Nat.reduceLeDiff, Nat.reduceLT, Nat.reduceEqDiff, Bool.true_and, Bool.false_and, Bool.and_true, Bool.and_false, Bool.true_or, Bool.false_or, Bool.or_true, Bool.or_false, cp_bind, cp_pure, cp_bindS, cp_seqS, cp_nmO, cp_cO, cp_frzD, cp_frzO, cp_valO, cp_valD, cp_binX, cp_unX, cp_caX, cp_nilA, cp_consA, cp_nilD, cp_consD, cp_free_eq, cp_setS, cp_retS, cp_exprS, cp_ifS, cp_nxS, cp_retN, cp_mvX, cp_frD, cp_frO, cp_truO, cp_tstB, cp_andT, cp_orT, cp_notT, cp_notX, cp_andO, cp_orO, cp_ifE, cp_chX, cp_noO, cp_ptO, cp_slX, cp_tupX, cp_lstX, cp_dic0X, cp_itX, cp_enX, cp_rg1, cp_gN, cp_asgS, cp_forS, cp_loopS_cons, cp_callX, cp_appF, cp_mkX, cp_fldS, cp_attX, cp_raiseS1, cp_raiseS0, cp_tryS, cp_muX, cp_muN, cp_mtX, cp_hasOw_eq, cp_gSubD, cp_parS, cp_kwX, cp_yesT, cp_compX, cp_compL_cons, ↓houE, ↓stoE, takeW hd c, cat8, is8]
theorem is_bl {b : Bool} : isiF [.bl b, .ty "bool"] = some (.fz (.bl true)) := by kernel_rfl
theorem ne_bl {b : Bool} : eq2D true (.bl b) (.bl b) = some (.fz (.bl false)) := by cases b <;> kernel_rfl
theorem eq_bl {b : Bool} : eq2D false (.bl b) (.bl b) = some (.fz (.bl true)) := by cases b <;> kernel_rfl
theorem eq_st {z : Str} : eq2D false (.str z) (.str z) = some (.fz (.bl true)) := by rw [eq2_str, decide_eq_true rfl]
theorem rightE {f : Bool} {d : D} (h : sdD f d = true) (hw : wtD d ≤ 1000000) (hd : dpD d ≤ 60) : F67 [.fz d] = .ok [.fz d] (.fz (.bl true)) := by
  obtain ⟨z, e1⟩ := reprD_ok h hw hd
  have p := PD.of_sd d h
  have e2 := isWhom p
  have e3 := dueE p
  unfold F67 g67
  cases q : whomP d with
  | true =>
    rw [q] at e2 e3
    simp only [bR_ok, bR_exc, bR_bad, kR_ok, bS_ok, bS_exc, bS_bad, nS_nx, nS_rt, nS_exc, nS_bk, nS_ct, nS_bad, gS_nx, lS_nx, lS_ct, lS_bk, lS_rt, lS_exc, fS_rt, fS_nx, fS_exc, hS_nx, hS_rt, hS_exc, pR_ok, pR_exc, oR_some, oR_none, cR_true, cR_false, xS_ok, con_vl, con_sl, conS_nil, conS_cons, loopS_nil, compL_nil, handle_nil, handle_cons, ap_bodyF, takeR_ok, takeR_exc, nmS, coS, vaS, vaA, vdS, vdA, mvS, frS, tsS, blO, ptS, muS, owB, gbS, gbD, flS, tkS, goneS, frz_fz, frz_ow, frz_oo, mine_no, mine_fz, mine_ow, mine_oo, owned_no, owned_fz, owned_ow, owned_oo, flag_no, flag_fz, flag_ow, flag_oo, give, back, argS, ownIx, wb, one, two, intS, blS, itemsD_lst, itemsD_tup, itemsD_scr, itemsD_str, enumD_lst, enumD_tup, numD_nil, numD_cons, truD_bl, truD_non, truD_int, truD_lst, truD_tup, attD, recOf, putFD, ap_gNilD, ap_gTupD, ap_gConsD, List.getElem?_cons_zero, List.getElem?_cons_succ, List.getElem?_nil, List.set_cons_zero, List.set_cons_succ, List.map_cons, List.map_nil, List.length_cons, List.length_nil, List.cons_append, List.nil_append, List.append_nil, List.replicate, List.getD_cons_zero, List.getD_cons_succ, List.getD_nil, List.nodup_nil, ite_true, ite_false, Bool.not_true, Bool.not_false, Bool.false_eq_true, reduceCtorEq, Nat.reduceSub, Nat.reduceAdd, List.nodup_cons, List.not_mem_nil, not_false_eq_true, and_self, and_true, true_and, decide_true, decide_false, List.take_succ_cons, List.take_zero, sizeLine_eq, Nat.zero_le, Nat.reduceLeDiff, Nat.reduceLT, Nat.reduceEqDiff, Bool.true_and, Bool.false_and, Bool.and_true, Bool.and_false, Bool.true_or, Bool.false_or, Bool.or_true, Bool.or_false, cp_bind, cp_pure, cp_bindS, cp_seqS, cp_nmO, cp_cO, cp_frzD, cp_frzO, cp_valO, cp_valD, cp_binX, cp_unX, cp_caX, cp_nilA, cp_consA, cp_nilD, cp_consD, cp_free_eq, cp_setS, cp_retS, cp_exprS, cp_ifS, cp_nxS, cp_retN, cp_mvX, cp_frD, cp_frO, cp_truO, cp_tstB, cp_andT, cp_orT, cp_notT, cp_notX, cp_andO, cp_orO, cp_ifE, cp_chX, cp_noO, cp_ptO, cp_slX, cp_tupX, cp_lstX, cp_dic0X, cp_itX, cp_enX, cp_rg1, cp_gN, cp_asgS, cp_forS, cp_loopS_cons, cp_callX, cp_appF, cp_mkX, cp_fldS, cp_attX, cp_raiseS1, cp_raiseS0, cp_tryS, cp_muX, cp_muN, cp_mtX, cp_hasOw_eq, cp_gSubD, cp_parS, cp_kwX, cp_yesT, cp_compX, cp_compL_cons, e1, e2, e3, is_bl, ne_bl, eq_bl, eq_st]
    try rfl
  | false =>
    rw [q] at e2 e3
    simp only [bR_ok, bR_exc, bR_bad, kR_ok, bS_ok, bS_exc, bS_bad, nS_nx, nS_rt, nS_exc, nS_bk, nS_ct, nS_bad, gS_nx, lS_nx, lS_ct, lS_bk, lS_rt, lS_exc, fS_rt, fS_nx, fS_exc, hS_nx, hS_rt, hS_exc, pR_ok, pR_exc, oR_some, oR_none, cR_true, cR_false, xS_ok, con_vl, con_sl, conS_nil, conS_cons, loopS_nil, compL_nil, handle_nil, handle_cons, ap_bodyF, takeR_ok, takeR_exc, nmS, coS, vaS, vaA, vdS, vdA, mvS, frS, tsS, blO, ptS, muS, owB, gbS, gbD, flS, tkS, goneS, frz_fz, frz_ow, frz_oo, mine_no, mine_fz, mine_ow, mine_oo, owned_no, owned_fz, owned_ow, owned_oo, flag_no, flag_fz, flag_ow, flag_oo, give, back, argS, ownIx, wb, one, two, intS, blS, itemsD_lst, itemsD_tup, itemsD_scr, itemsD_str, enumD_lst, enumD_tup, numD_nil, numD_cons, truD_bl, truD_non, truD_int, truD_lst, truD_tup, attD, recOf, putFD, ap_gNilD, ap_gTupD, ap_gConsD, List.getElem?_cons_zero, List.getElem?_cons_succ, List.getElem?_nil, List.set_cons_zero, List.set_cons_succ, List.map_cons, List.map_nil, List.length_cons, List.length_nil, List.cons_append, List.nil_append, List.append_nil, List.replicate, List.getD_cons_zero, List.getD_cons_succ, List.getD_nil, List.nodup_nil, ite_true, ite_false, Bool.not_true, Bool.not_false, Bool.false_eq_true, reduceCtorEq, Nat.reduceSub, Nat.reduceAdd, List.nodup_cons, List.not_mem_nil, not_false_eq_true, and_self, and_true, true_and, decide_true, decide_false, List.take_succ_cons, List.take_zero, sizeLine_eq, Nat.zero_le, Nat.reduceLeDiff, Nat.reduceLT, Nat.reduceEqDiff, Bool.true_and, Bool.false_and, Bool.and_true, Bool.and_false, Bool.true_or, Bool.false_or, Bool.or_true, Bool.or_false, cp_bind, cp_pure, cp_bindS, cp_seqS, cp_nmO, cp_cO, cp_frzD, cp_frzO, cp_valO, cp_valD, cp_binX, cp_unX, cp_caX, cp_nilA, cp_consA, cp_nilD, cp_consD, cp_free_eq, cp_setS, cp_retS, cp_exprS, cp_ifS, cp_nxS, cp_retN, cp_mvX, cp_frD, cp_frO, cp_truO, cp_tstB, cp_andT, cp_orT, cp_notT, cp_notX, cp_andO, cp_orO, cp_ifE, cp_chX, cp_noO, cp_ptO, cp_slX, cp_tupX, cp_lstX, cp_dic0X, cp_itX, cp_enX, cp_rg1, cp_gN, cp_asgS, cp_forS, cp_loopS_cons, cp_callX, cp_appF, cp_mkX, cp_fldS, cp_attX, cp_raiseS1, cp_raiseS0, cp_tryS, cp_muX, cp_muN, cp_mtX, cp_hasOw_eq, cp_gSubD, cp_parS, cp_kwX, cp_yesT, cp_compX, cp_compL_cons, e1, e2, e3, is_bl, ne_bl, eq_bl, eq_st, refW p q]
    try rfl
/-! ### names, whoms -/
def NM (z : Str) : Prop := z.length ≤ 9 ∧ ascS z = true
def ownW : List Str := ["all", "and", "children", "childless", "crown", "else", "if", "lives", "not", "of", "or", "stock", "to", "one", "none", "abcdefgh", "abcdefghi", "ann", "ben", "x", "give", "rest", "wait", "alls", "stocks"]
theorem own_nm : ∀ w ∈ ownW, NM w := by unfold NM; decide +kernel
def abcZ : Str := "abcdefghijklmnopqrstuvwxyz"
theorem abc_asc : ∀ c ∈ abcZ.cps.toList, c < 128 := by decide +kernel
def nmB : So := (setS 3 (binX addD (nmO 3) (frzO (binX ixD (nmO 2) (frzO (callX F59 [] (consA (nmO 0) (consA (cO (.int 26)) nilA))))))))
theorem nm_step {q i : Int} {s1 : Sl} {z : Str} (hz : z.length ≤ 900) (ha : ascS z = true) : ∃ (q' : Int) (z' : Str), nmB [.ow true [.int q], s1, .fz (.str abcZ), .fz (.str z), .fz (.int i)] = .nx [.ow true [.int q'], s1, .fz (.str abcZ), .fz (.str z'), .fz (.int i)] ∧ z'.length = z.length + 1 ∧ ascS z' = true := by
  obtain ⟨p', q', v, e, _, v0, v1⟩ := take (m := true) (p := 0) (q := q) trivial (show (0 : Int) < 26 by decide) (by decide)
  obtain ⟨c, hc, ec⟩ := ixD_str (z := abcZ) (i := v) (by decide) v0 (Int.lt_of_lt_of_le v1 (by decide))
  have l := len_add z ⟨#[c]⟩
  have l1 : (⟨#[c]⟩ : Str).length = 1 := rfl
  have a := addD_str (a := z) (b := ⟨#[c]⟩) (by omega)
  refine ⟨q', z ++ ⟨#[c]⟩, ?_, by omega, ?_⟩
  · unfold nmB
    simp only [bR_ok, bR_exc, bR_bad, kR_ok, bS_ok, bS_exc, bS_bad, nS_nx, nS_rt, nS_exc, nS_bk, nS_ct, nS_bad, gS_nx, lS_nx, lS_ct, lS_bk, lS_rt, lS_exc, fS_rt, fS_nx, fS_exc, hS_nx, hS_rt, hS_exc, pR_ok, pR_exc, oR_some, oR_none, cR_true, cR_false, xS_ok, con_vl, con_sl, conS_nil, conS_cons, loopS_nil, compL_nil, handle_nil, handle_cons, ap_bodyF, takeR_ok, takeR_exc, nmS, coS, vaS, vaA, vdS, vdA, mvS, frS, tsS, blO, ptS, muS, owB, gbS, gbD, flS, tkS, goneS, frz_fz, frz_ow, frz_oo, mine_no, mine_fz, mine_ow, mine_oo, owned_no, owned_fz, owned_ow, owned_oo, flag_no, flag_fz, flag_ow, flag_oo, give, back, argS, ownIx, wb, one, two, intS, blS, itemsD_lst, itemsD_tup, itemsD_scr, itemsD_str, enumD_lst, enumD_tup, numD_nil, numD_cons, truD_bl, truD_non, truD_int, truD_lst, truD_tup, attD, recOf, putFD, ap_gNilD, ap_gTupD, ap_gConsD, List.getElem?_cons_zero, List.getElem?_cons_succ, List.getElem?_nil, List.set_cons_zero, List.set_cons_succ, List.map_cons, List.map_nil, List.length_cons, List.length_nil, List.cons_append, List.nil_append, List.append_nil, List.replicate, List.getD_cons_zero, List.getD_cons_succ, List.getD_nil, List.nodup_nil, ite_true, ite_false, Bool.not_true, Bool.not_false, Bool.false_eq_true, reduceCtorEq, Nat.reduceSub, Nat.reduceAdd, List.nodup_cons, List.not_mem_nil, not_false_eq_true, and_self, and_true, true_and, decide_true, decide_false, List.take_succ_cons, List.take_zero, sizeLine_eq, Nat.zero_le, Nat.reduceLeDiff, Nat.reduceLT, Nat.reduceEqDiff, Bool.true_and, Bool.false_and, Bool.and_true, Bool.and_false, Bool.true_or, Bool.false_or, Bool.or_true, Bool.or_false, cp_bind, cp_pure, cp_bindS, cp_seqS, cp_nmO, cp_cO, cp_frzD, cp_frzO, cp_valO, cp_valD, cp_binX, cp_unX, cp_caX, cp_nilA, cp_consA, cp_nilD, cp_consD, cp_free_eq, cp_setS, cp_retS, cp_exprS, cp_ifS, cp_nxS, cp_retN, cp_mvX, cp_frD, cp_frO, cp_truO, cp_tstB, cp_andT, cp_orT, cp_notT, cp_notX, cp_andO, cp_orO, cp_ifE, cp_chX, cp_noO, cp_ptO, cp_slX, cp_tupX, cp_lstX, cp_dic0X, cp_itX, cp_enX, cp_rg1, cp_gN, cp_asgS, cp_forS, cp_loopS_cons, cp_callX, cp_appF, cp_mkX, cp_fldS, cp_attX, cp_raiseS1, cp_raiseS0, cp_tryS, cp_muX, cp_muN, cp_mtX, cp_hasOw_eq, cp_gSubD, cp_parS, cp_kwX, cp_yesT, cp_compX, cp_compL_cons, e, ec, a]
  · rw [asc_app, ha, asc_one (abc_asc c hc)]
    rfl
theorem nameE {m : Bool} {q : Int} : ∃ (q' : Int) (z : Str), F60 [.ow m [.int q]] = .ok [.ow m [.int q']] (.fz (.str z)) ∧ NM z := by
  obtain ⟨p1, q1, v, e1, _, v0, v1⟩ := take (m := true) (p := 0) (q := q) trivial (show (0 : Int) < 5 by decide) (by decide)
  obtain ⟨A, B, hAB, eA, eB⟩ : ∃ A B : List D, A ++ B = ownW.map D.str ∧ (∀ ρ0, lstX (consD (valD (cO (.str "all"))) (consD (valD (cO (.str "and"))) (consD (valD (cO (.str "children"))) (consD (valD (cO (.str "childless"))) (consD (valD (cO (.str "crown"))) (consD (valD (cO (.str "else"))) (consD (valD (cO (.str "if"))) (consD (valD (cO (.str "lives"))) (consD (valD (cO (.str "not"))) (consD (valD (cO (.str "of"))) (consD (valD (cO (.str "or"))) (consD (valD (cO (.str "stock"))) (consD (valD (cO (.str "to"))) nilD))))))))))))) ρ0 = .ok ρ0 (.ow false A)) ∧ (∀ ρ0, frzO (lstX (consD (valD (cO (.str "one"))) (consD (valD (cO (.str "none"))) (consD (valD (cO (.str "abcdefgh"))) (consD (valD (cO (.str "abcdefghi"))) (consD (valD (cO (.str "ann"))) (consD (valD (cO (.str "ben"))) (consD (valD (cO (.str "x"))) (consD (valD (cO (.str "give"))) (consD (valD (cO (.str "rest"))) (consD (valD (cO (.str "wait"))) (consD (valD (cO (.str "alls"))) (consD (valD (cO (.str "stocks"))) nilD))))))))))))) ρ0 = .ok ρ0 (.vl (.lst B))) :=
    ⟨(ownW.take 13).map D.str, (ownW.drop 13).map D.str, by rw [← List.map_append, List.take_append_drop], fun _ => rfl, fun _ => rfl⟩
  have hl : A.length + B.length = 25 := by
    rw [← List.length_append, hAB, List.length_map]
    rfl
  have ad := add_lst (xs := A) (ys := B) (by omega)
  unfold F60 g60
  by_cases c : v = 0
  · obtain ⟨p2, q2, u, e2, _, u0, u1⟩ := take (m := true) (p := 0) (q := q1) trivial (show (0 : Int) < 25 by decide) (by decide)
    obtain ⟨d, hd, f1⟩ := ixD_lst (xs := A ++ B) (i := u) u0 (by rw [List.length_append]; omega)
    rw [hAB] at hd
    obtain ⟨z, hz, rfl⟩ := List.mem_map.mp hd
    refine ⟨q2, z, ?_, own_nm z hz⟩
    simp only [bR_ok, bR_exc, bR_bad, kR_ok, bS_ok, bS_exc, bS_bad, nS_nx, nS_rt, nS_exc, nS_bk, nS_ct, nS_bad, gS_nx, lS_nx, lS_ct, lS_bk, lS_rt, lS_exc, fS_rt, fS_nx, fS_exc, hS_nx, hS_rt, hS_exc, pR_ok, pR_exc, oR_some, oR_none, cR_true, cR_false, xS_ok, con_vl, con_sl, conS_nil, conS_cons, loopS_nil, compL_nil, handle_nil, handle_cons, ap_bodyF, takeR_ok, takeR_exc, nmS, coS, vaS, vaA, vdS, vdA, mvS, frS, tsS, blO, ptS, muS, owB, gbS, gbD, flS, tkS, goneS, frz_fz, frz_ow, frz_oo, mine_no, mine_fz, mine_ow, mine_oo, owned_no, owned_fz, owned_ow, owned_oo, flag_no, flag_fz, flag_ow, flag_oo, give, back, argS, ownIx, wb, one, two, intS, blS, itemsD_lst, itemsD_tup, itemsD_scr, itemsD_str, enumD_lst, enumD_tup, numD_nil, numD_cons, truD_bl, truD_non, truD_int, truD_lst, truD_tup, attD, recOf, putFD, ap_gNilD, ap_gTupD, ap_gConsD, List.getElem?_cons_zero, List.getElem?_cons_succ, List.getElem?_nil, List.set_cons_zero, List.set_cons_succ, List.map_cons, List.map_nil, List.length_cons, List.length_nil, List.cons_append, List.nil_append, List.append_nil, List.replicate, List.getD_cons_zero, List.getD_cons_succ, List.getD_nil, List.nodup_nil, ite_true, ite_false, Bool.not_true, Bool.not_false, Bool.false_eq_true, reduceCtorEq, Nat.reduceSub, Nat.reduceAdd, List.nodup_cons, List.not_mem_nil, not_false_eq_true, and_self, and_true, true_and, decide_true, decide_false, List.take_succ_cons, List.take_zero, sizeLine_eq, Nat.zero_le, Nat.reduceLeDiff, Nat.reduceLT, Nat.reduceEqDiff, Bool.true_and, Bool.false_and, Bool.and_true, Bool.and_false, Bool.true_or, Bool.false_or, Bool.or_true, Bool.or_false, cp_bind, cp_pure, cp_bindS, cp_seqS, cp_nmO, cp_cO, cp_frzD, cp_frzO, cp_valO, cp_valD, cp_binX, cp_unX, cp_caX, cp_nilA, cp_consA, cp_nilD, cp_consD, cp_free_eq, cp_setS, cp_retS, cp_exprS, cp_ifS, cp_nxS, cp_retN, cp_mvX, cp_frD, cp_frO, cp_truO, cp_tstB, cp_andT, cp_orT, cp_notT, cp_notX, cp_andO, cp_orO, cp_ifE, cp_chX, cp_noO, cp_ptO, cp_slX, cp_tupX, cp_lstX, cp_dic0X, cp_itX, cp_enX, cp_rg1, cp_gN, cp_asgS, cp_forS, cp_loopS_cons, cp_callX, cp_appF, cp_mkX, cp_fldS, cp_attX, cp_raiseS1, cp_raiseS0, cp_tryS, cp_muX, cp_muN, cp_mtX, cp_hasOw_eq, cp_gSubD, cp_parS, cp_kwX, cp_yesT, cp_compX, cp_compL_cons, ↓eA, ↓eB, ad, e1, eq2_int, decide_eq_true c, e2, f1]
  · obtain ⟨p2, q2, u, e2, _, u0, u1⟩ := take (m := true) (p := 0) (q := q1) trivial (show (0 : Int) < 8 by decide) (by decide)
    obtain ⟨n, hn⟩ : ∃ n : Nat, (n : Int) = 1 + u := ⟨(1 + u).toNat, by omega⟩
    have ea : addD (.int 1) (.int u) = some (.fz (.int n)) := by rw [addD_int, hn]
    have er := fun ρ => rgS_nat (ρ := ρ) (show n ≤ 1000000 by omega)
    obtain ⟨ρ', el, q3, z, t, rfl, hz, ha, ht⟩ := loopS_inv (t := gN 4) (body := nmB) (fun k ρ => ∃ (q : Int) (z : Str) (t : Sl), ρ = [.ow true [.int q], .ow false (A ++ B), .fz (.str abcZ), .fz (.str z), t] ∧ z.length = k ∧ ascS z = true ∧ t.mine = false)
      (rngD 0 n) 0 [.ow true [.int q2], .ow false (A ++ B), .fz (.str abcZ), .fz (.str ""), .no] ⟨_, _, _, rfl, rfl, rfl, rfl⟩ fun j d ρ hj hi => by
        obtain ⟨q, z, t, rfl, hz, ha, ht⟩ := hi
        obtain ⟨i, rfl, i0, i1⟩ := mem_rngD (List.mem_of_getElem? hj)
        have hj' : j < (rngD 0 n).length := (List.getElem?_eq_some_iff.mp hj).1
        rw [rngD_length] at hj'
        obtain ⟨q', z', e, l, a⟩ := nm_step (q := q) (i := i) (s1 := .ow false (A ++ B)) (z := z) (by omega) ha
        refine ⟨[.ow true [.int q], .ow false (A ++ B), .fz (.str abcZ), .fz (.str z), .fz (.int i)], _, ?_, .inl e, _, _, _, rfl, by omega, a, rfl⟩
        simp only [bR_ok, bR_exc, bR_bad, kR_ok, bS_ok, bS_exc, bS_bad, nS_nx, nS_rt, nS_exc, nS_bk, nS_ct, nS_bad, gS_nx, lS_nx, lS_ct, lS_bk, lS_rt, lS_exc, fS_rt, fS_nx, fS_exc, hS_nx, hS_rt, hS_exc, pR_ok, pR_exc, oR_some, oR_none, cR_true, cR_false, xS_ok, con_vl, con_sl, conS_nil, conS_cons, loopS_nil, compL_nil, handle_nil, handle_cons, ap_bodyF, takeR_ok, takeR_exc, nmS, coS, vaS, vaA, vdS, vdA, mvS, frS, tsS, blO, ptS, muS, owB, gbS, gbD, flS, tkS, goneS, frz_fz, frz_ow, frz_oo, mine_no, mine_fz, mine_ow, mine_oo, owned_no, owned_fz, owned_ow, owned_oo, flag_no, flag_fz, flag_ow, flag_oo, give, back, argS, ownIx, wb, one, two, intS, blS, itemsD_lst, itemsD_tup, itemsD_scr, itemsD_str, enumD_lst, enumD_tup, numD_nil, numD_cons, truD_bl, truD_non, truD_int, truD_lst, truD_tup, attD, recOf, putFD, ap_gNilD, ap_gTupD, ap_gConsD, List.getElem?_cons_zero, List.getElem?_cons_succ, List.getElem?_nil, List.set_cons_zero, List.set_cons_succ, List.map_cons, List.map_nil, List.length_cons, List.length_nil, List.cons_append, List.nil_append, List.append_nil, List.replicate, List.getD_cons_zero, List.getD_cons_succ, List.getD_nil, List.nodup_nil, ite_true, ite_false, Bool.not_true, Bool.not_false, Bool.false_eq_true, reduceCtorEq, Nat.reduceSub, Nat.reduceAdd, List.nodup_cons, List.not_mem_nil, not_false_eq_true, and_self, and_true, true_and, decide_true, decide_false, List.take_succ_cons, List.take_zero, sizeLine_eq, Nat.zero_le, Nat.reduceLeDiff, Nat.reduceLT, Nat.reduceEqDiff, Bool.true_and, Bool.false_and, Bool.and_true, Bool.and_false, Bool.true_or, Bool.false_or, Bool.or_true, Bool.or_false, cp_bind, cp_pure, cp_bindS, cp_seqS, cp_nmO, cp_cO, cp_frzD, cp_frzO, cp_valO, cp_valD, cp_binX, cp_unX, cp_caX, cp_nilA, cp_consA, cp_nilD, cp_consD, cp_free_eq, cp_setS, cp_retS, cp_exprS, cp_ifS, cp_nxS, cp_retN, cp_mvX, cp_frD, cp_frO, cp_truO, cp_tstB, cp_andT, cp_orT, cp_notT, cp_notX, cp_andO, cp_orO, cp_ifE, cp_chX, cp_noO, cp_ptO, cp_slX, cp_tupX, cp_lstX, cp_dic0X, cp_itX, cp_enX, cp_rg1, cp_gN, cp_asgS, cp_forS, cp_loopS_cons, cp_callX, cp_appF, cp_mkX, cp_fldS, cp_attX, cp_raiseS1, cp_raiseS0, cp_tryS, cp_muX, cp_muN, cp_mtX, cp_hasOw_eq, cp_gSubD, cp_parS, cp_kwX, cp_yesT, cp_compX, cp_compL_cons, ht]
    rw [rngD_length] at hz
    refine ⟨q3, z, ?_, by omega, ha⟩
    unfold nmB at el
    unfold abcZ at el
    simp only [bR_ok, bR_exc, bR_bad, kR_ok, bS_ok, bS_exc, bS_bad, nS_nx, nS_rt, nS_exc, nS_bk, nS_ct, nS_bad, gS_nx, lS_nx, lS_ct, lS_bk, lS_rt, lS_exc, fS_rt, fS_nx, fS_exc, hS_nx, hS_rt, hS_exc, pR_ok, pR_exc, oR_some, oR_none, cR_true, cR_false, xS_ok, con_vl, con_sl, conS_nil, conS_cons, loopS_nil, compL_nil, handle_nil, handle_cons, ap_bodyF, takeR_ok, takeR_exc, nmS, coS, vaS, vaA, vdS, vdA, mvS, frS, tsS, blO, ptS, muS, owB, gbS, gbD, flS, tkS, goneS, frz_fz, frz_ow, frz_oo, mine_no, mine_fz, mine_ow, mine_oo, owned_no, owned_fz, owned_ow, owned_oo, flag_no, flag_fz, flag_ow, flag_oo, give, back, argS, ownIx, wb, one, two, intS, blS, itemsD_lst, itemsD_tup, itemsD_scr, itemsD_str, enumD_lst, enumD_tup, numD_nil, numD_cons, truD_bl, truD_non, truD_int, truD_lst, truD_tup, attD, recOf, putFD, ap_gNilD, ap_gTupD, ap_gConsD, List.getElem?_cons_zero, List.getElem?_cons_succ, List.getElem?_nil, List.set_cons_zero, List.set_cons_succ, List.map_cons, List.map_nil, List.length_cons, List.length_nil, List.cons_append, List.nil_append, List.append_nil, List.replicate, List.getD_cons_zero, List.getD_cons_succ, List.getD_nil, List.nodup_nil, ite_true, ite_false, Bool.not_true, Bool.not_false, Bool.false_eq_true, reduceCtorEq, Nat.reduceSub, Nat.reduceAdd, List.nodup_cons, List.not_mem_nil, not_false_eq_true, and_self, and_true, true_and, decide_true, decide_false, List.take_succ_cons, List.take_zero, sizeLine_eq, Nat.zero_le, Nat.reduceLeDiff, Nat.reduceLT, Nat.reduceEqDiff, Bool.true_and, Bool.false_and, Bool.and_true, Bool.and_false, Bool.true_or, Bool.false_or, Bool.or_true, Bool.or_false, cp_bind, cp_pure, cp_bindS, cp_seqS, cp_nmO, cp_cO, cp_frzD, cp_frzO, cp_valO, cp_valD, cp_binX, cp_unX, cp_caX, cp_nilA, cp_consA, cp_nilD, cp_consD, cp_free_eq, cp_setS, cp_retS, cp_exprS, cp_ifS, cp_nxS, cp_retN, cp_mvX, cp_frD, cp_frO, cp_truO, cp_tstB, cp_andT, cp_orT, cp_notT, cp_notX, cp_andO, cp_orO, cp_ifE, cp_chX, cp_noO, cp_ptO, cp_slX, cp_tupX, cp_lstX, cp_dic0X, cp_itX, cp_enX, cp_rg1, cp_gN, cp_asgS, cp_forS, cp_loopS_cons, cp_callX, cp_appF, cp_mkX, cp_fldS, cp_attX, cp_raiseS1, cp_raiseS0, cp_tryS, cp_muX, cp_muN, cp_mtX, cp_hasOw_eq, cp_gSubD, cp_parS, cp_kwX, cp_yesT, cp_compX, cp_compL_cons, ↓eA, ↓eB, ad, e1, eq2_int, decide_eq_false c, e2, ea, er, ↓el]
def PT (d : D) : Prop := ∃ w z, d = .tup [.str w, .str z] ∧ w ∈ wrd ∧ NM z
def AL (d : D) : Prop := ∃ ps, d = .tup ps ∧ ps.length ≤ 7 ∧ ∀ p ∈ ps, PT p
def WH (d : D) : Prop := ∃ ds, d = .tup ds ∧ ds.length ≤ 5 ∧ ∀ p ∈ ds, AL p
def whB : So := (seqS (setS 3 (binX ixD (frzO (lstX (consD (valD (cO (.int 1))) (consD (frzD (binX addD (cO (.int 1)) (frzO (callX F59 [] (consA (nmO 0) (consA (cO (.int 6)) nilA)))))) (consD (valD (cO (.int 6))) (consD (valD (cO (.int 2))) (consD (valD (cO (.int 1))) (consD (valD (cO (.int 7))) (consD (valD (cO (.int 3))) (consD (valD (cO (.int 1))) (consD (valD (cO (.int 1))) (consD (valD (cO (.int 2))) (consD (valD (cO (.int 4))) (consD (valD (cO (.int 2))) nilD)))))))))))))) (frzO (callX F59 [] (consA (nmO 0) (consA (cO (.int 12)) nilA)))))) (seqS (setS 4 (lstX (consD (valD (cO (.str "one"))) (consD (valD (cO (.str "children"))) (consD (valD (cO (.str "stock"))) nilD))))) (seqS (setS 5 (compX [6] (rg1 (nmO 3)) (gN 6) yesT (frzD (tupX (consD (frzD (binX ixD (nmO 4) (frzO (callX F59 [] (consA (nmO 0) (consA (cO (.int 3)) nilA)))))) (consD (frzD (callX F60 [] (consA (nmO 0) nilA))) nilD)))))) (exprS (muN 1 (muX 1 appendG (consD (frzD (caX (one tupleD) (consA (nmO 5) nilA))) nilD)))))))
theorem int_in {xs : List Int} {d : D} (h : d ∈ xs.map D.int) : ∃ i ∈ xs, d = .int i := by
  obtain ⟨i, hi, e⟩ := List.mem_map.mp h
  exact ⟨i, hi, e.symm⟩
theorem wh_many {q : Int} {a b c d e s : Sl} : ∃ (q' : Int) (n : Nat), n ≤ 7 ∧ (binX ixD (frzO (lstX (consD (valD (cO (.int 1))) (consD (frzD (binX addD (cO (.int 1)) (frzO (callX F59 [] (consA (nmO 0) (consA (cO (.int 6)) nilA)))))) (consD (valD (cO (.int 6))) (consD (valD (cO (.int 2))) (consD (valD (cO (.int 1))) (consD (valD (cO (.int 7))) (consD (valD (cO (.int 3))) (consD (valD (cO (.int 1))) (consD (valD (cO (.int 1))) (consD (valD (cO (.int 2))) (consD (valD (cO (.int 4))) (consD (valD (cO (.int 2))) nilD)))))))))))))) (frzO (callX F59 [] (consA (nmO 0) (consA (cO (.int 12)) nilA))))) [.ow true [.int q], a, b, c, d, e, s] = .ok [.ow true [.int q'], a, b, c, d, e, s] (.fz (.int (n : Nat))) := by
  obtain ⟨p1, q1, v, e1, _, v0, v1⟩ := take (m := true) (p := 0) (q := q) trivial (show (0 : Int) < 6 by decide) (by decide)
  obtain ⟨p2, q2, u, e2, _, u0, u1⟩ := take (m := true) (p := 0) (q := q1) trivial (show (0 : Int) < 12 by decide) (by decide)
  obtain ⟨x, hx, f1⟩ := ixD_lst (xs := ([1, 1 + v, 6, 2, 1, 7, 3, 1, 1, 2, 4, 2] : List Int).map D.int) (i := u) u0 (by exact u1)
  obtain ⟨i, hi, rfl⟩ := int_in hx
  have hb : 0 ≤ i ∧ i ≤ 7 := by
    simp only [List.mem_cons, List.not_mem_nil, or_false] at hi
    omega
  refine ⟨q2, i.toNat, by omega, ?_⟩
  have : ((i.toNat : Nat) : Int) = i := by omega
  rw [this]
  simp only [List.map_cons, List.map_nil] at f1
  simp only [bR_ok, bR_exc, bR_bad, kR_ok, bS_ok, bS_exc, bS_bad, nS_nx, nS_rt, nS_exc, nS_bk, nS_ct, nS_bad, gS_nx, lS_nx, lS_ct, lS_bk, lS_rt, lS_exc, fS_rt, fS_nx, fS_exc, hS_nx, hS_rt, hS_exc, pR_ok, pR_exc, oR_some, oR_none, cR_true, cR_false, xS_ok, con_vl, con_sl, conS_nil, conS_cons, loopS_nil, compL_nil, handle_nil, handle_cons, ap_bodyF, takeR_ok, takeR_exc, nmS, coS, vaS, vaA, vdS, vdA, mvS, frS, tsS, blO, ptS, muS, owB, gbS, gbD, flS, tkS, goneS, frz_fz, frz_ow, frz_oo, mine_no, mine_fz, mine_ow, mine_oo, owned_no, owned_fz, owned_ow, owned_oo, flag_no, flag_fz, flag_ow, flag_oo, give, back, argS, ownIx, wb, one, two, intS, blS, itemsD_lst, itemsD_tup, itemsD_scr, itemsD_str, enumD_lst, enumD_tup, numD_nil, numD_cons, truD_bl, truD_non, truD_int, truD_lst, truD_tup, attD, recOf, putFD, ap_gNilD, ap_gTupD, ap_gConsD, List.getElem?_cons_zero, List.getElem?_cons_succ, List.getElem?_nil, List.set_cons_zero, List.set_cons_succ, List.map_cons, List.map_nil, List.length_cons, List.length_nil, List.cons_append, List.nil_append, List.append_nil, List.replicate, List.getD_cons_zero, List.getD_cons_succ, List.getD_nil, List.nodup_nil, ite_true, ite_false, Bool.not_true, Bool.not_false, Bool.false_eq_true, reduceCtorEq, Nat.reduceSub, Nat.reduceAdd, List.nodup_cons, List.not_mem_nil, not_false_eq_true, and_self, and_true, true_and, decide_true, decide_false, List.take_succ_cons, List.take_zero, sizeLine_eq, Nat.zero_le, Nat.reduceLeDiff, Nat.reduceLT, Nat.reduceEqDiff, Bool.true_and, Bool.false_and, Bool.and_true, Bool.and_false, Bool.true_or, Bool.false_or, Bool.or_true, Bool.or_false, cp_bind, cp_pure, cp_bindS, cp_seqS, cp_nmO, cp_cO, cp_frzD, cp_frzO, cp_valO, cp_valD, cp_binX, cp_unX, cp_caX, cp_nilA, cp_consA, cp_nilD, cp_consD, cp_free_eq, cp_setS, cp_retS, cp_exprS, cp_ifS, cp_nxS, cp_retN, cp_mvX, cp_frD, cp_frO, cp_truO, cp_tstB, cp_andT, cp_orT, cp_notT, cp_notX, cp_andO, cp_orO, cp_ifE, cp_chX, cp_noO, cp_ptO, cp_slX, cp_tupX, cp_lstX, cp_dic0X, cp_itX, cp_enX, cp_rg1, cp_gN, cp_asgS, cp_forS, cp_loopS_cons, cp_callX, cp_appF, cp_mkX, cp_fldS, cp_attX, cp_raiseS1, cp_raiseS0, cp_tryS, cp_muX, cp_muN, cp_mtX, cp_hasOw_eq, cp_gSubD, cp_parS, cp_kwX, cp_yesT, cp_compX, cp_compL_cons, e1, addD_int, e2, f1]
theorem wh_it {q : Int} {a b c d e s : Sl} : ∃ (q' : Int) (n : Nat), n ≤ 5 ∧ (rg1 (frzO (binX ixD (frzO (lstX (consD (valD (cO (.int 1))) (consD (valD (cO (.int 2))) (consD (valD (cO (.int 4))) (consD (frzD (binX addD (cO (.int 1)) (frzO (callX F59 [] (consA (nmO 0) (consA (cO (.int 4)) nilA)))))) (consD (valD (cO (.int 3))) (consD (valD (cO (.int 5))) nilD)))))))) (frzO (callX F59 [] (consA (nmO 0) (consA (cO (.int 6)) nilA))))))) [.ow true [.int q], a, b, c, d, e, s] = .ok [.ow true [.int q'], a, b, c, d, e, s] (rngD 0 n) := by
  obtain ⟨p1, q1, v, e1, _, v0, v1⟩ := take (m := true) (p := 0) (q := q) trivial (show (0 : Int) < 4 by decide) (by decide)
  obtain ⟨p2, q2, u, e2, _, u0, u1⟩ := take (m := true) (p := 0) (q := q1) trivial (show (0 : Int) < 6 by decide) (by decide)
  obtain ⟨x, hx, f1⟩ := ixD_lst (xs := ([1, 2, 4, 1 + v, 3, 5] : List Int).map D.int) (i := u) u0 (by exact u1)
  obtain ⟨i, hi, rfl⟩ := int_in hx
  have hb : 0 ≤ i ∧ i ≤ 5 := by
    simp only [List.mem_cons, List.not_mem_nil, or_false] at hi
    omega
  have hi' : ((i.toNat : Nat) : Int) = i := by omega
  have er := fun ρ => rgS_nat (ρ := ρ) (n := i.toNat) (by omega)
  rw [hi'] at er
  refine ⟨q2, i.toNat, by omega, ?_⟩
  rw [hi']
  simp only [List.map_cons, List.map_nil] at f1
  simp only [bR_ok, bR_exc, bR_bad, kR_ok, bS_ok, bS_exc, bS_bad, nS_nx, nS_rt, nS_exc, nS_bk, nS_ct, nS_bad, gS_nx, lS_nx, lS_ct, lS_bk, lS_rt, lS_exc, fS_rt, fS_nx, fS_exc, hS_nx, hS_rt, hS_exc, pR_ok, pR_exc, oR_some, oR_none, cR_true, cR_false, xS_ok, con_vl, con_sl, conS_nil, conS_cons, loopS_nil, compL_nil, handle_nil, handle_cons, ap_bodyF, takeR_ok, takeR_exc, nmS, coS, vaS, vaA, vdS, vdA, mvS, frS, tsS, blO, ptS, muS, owB, gbS, gbD, flS, tkS, goneS, frz_fz, frz_ow, frz_oo, mine_no, mine_fz, mine_ow, mine_oo, owned_no, owned_fz, owned_ow, owned_oo, flag_no, flag_fz, flag_ow, flag_oo, give, back, argS, ownIx, wb, one, two, intS, blS, itemsD_lst, itemsD_tup, itemsD_scr, itemsD_str, enumD_lst, enumD_tup, numD_nil, numD_cons, truD_bl, truD_non, truD_int, truD_lst, truD_tup, attD, recOf, putFD, ap_gNilD, ap_gTupD, ap_gConsD, List.getElem?_cons_zero, List.getElem?_cons_succ, List.getElem?_nil, List.set_cons_zero, List.set_cons_succ, List.map_cons, List.map_nil, List.length_cons, List.length_nil, List.cons_append, List.nil_append, List.append_nil, List.replicate, List.getD_cons_zero, List.getD_cons_succ, List.getD_nil, List.nodup_nil, ite_true, ite_false, Bool.not_true, Bool.not_false, Bool.false_eq_true, reduceCtorEq, Nat.reduceSub, Nat.reduceAdd, List.nodup_cons, List.not_mem_nil, not_false_eq_true, and_self, and_true, true_and, decide_true, decide_false, List.take_succ_cons, List.take_zero, sizeLine_eq, Nat.zero_le, Nat.reduceLeDiff, Nat.reduceLT, Nat.reduceEqDiff, Bool.true_and, Bool.false_and, Bool.and_true, Bool.and_false, Bool.true_or, Bool.false_or, Bool.or_true, Bool.or_false, cp_bind, cp_pure, cp_bindS, cp_seqS, cp_nmO, cp_cO, cp_frzD, cp_frzO, cp_valO, cp_valD, cp_binX, cp_unX, cp_caX, cp_nilA, cp_consA, cp_nilD, cp_consD, cp_free_eq, cp_setS, cp_retS, cp_exprS, cp_ifS, cp_nxS, cp_retN, cp_mvX, cp_frD, cp_frO, cp_truO, cp_tstB, cp_andT, cp_orT, cp_notT, cp_notX, cp_andO, cp_orO, cp_ifE, cp_chX, cp_noO, cp_ptO, cp_slX, cp_tupX, cp_lstX, cp_dic0X, cp_itX, cp_enX, cp_rg1, cp_gN, cp_asgS, cp_forS, cp_loopS_cons, cp_callX, cp_appF, cp_mkX, cp_fldS, cp_attX, cp_raiseS1, cp_raiseS0, cp_tryS, cp_muX, cp_muN, cp_mtX, cp_hasOw_eq, cp_gSubD, cp_parS, cp_kwX, cp_yesT, cp_compX, cp_compL_cons, e1, addD_int, e2, f1, er]
theorem wrdX (ρ : List Sl) : lstX (consD (valD (cO (.str "one"))) (consD (valD (cO (.str "children"))) (consD (valD (cO (.str "stock"))) nilD))) ρ = .ok ρ (.ow false (wrd.map D.str)) := by kernel_rfl
theorem wh_part {q : Int} {n : Nat} {a b s5 : Sl} {d : D} : ∃ (q' : Int) (y : D), PT y ∧ frzD (tupX (consD (frzD (binX ixD (nmO 4) (frzO (callX F59 [] (consA (nmO 0) (consA (cO (.int 3)) nilA)))))) (consD (frzD (callX F60 [] (consA (nmO 0) nilA))) nilD))) [.ow true [.int q], a, b, .fz (.int n), .ow false (wrd.map D.str), s5, .fz d] = .ok [.ow true [.int q'], a, b, .fz (.int n), .ow false (wrd.map D.str), s5, .fz d] y := by
  obtain ⟨p1, q1, v, e1, _, v0, v1⟩ := take (m := true) (p := 0) (q := q) trivial (show (0 : Int) < 3 by decide) (by decide)
  obtain ⟨x, hx, f1⟩ := ixD_lst (xs := wrd.map D.str) (i := v) v0 (by exact v1)
  obtain ⟨w, hw, rfl⟩ := List.mem_map.mp hx
  obtain ⟨q2, z, e2, hz⟩ := nameE (m := true) (q := q1)
  refine ⟨q2, .tup [.str w, .str z], ⟨w, z, rfl, hw, hz⟩, ?_⟩
  generalize wrd.map D.str = W at f1
  simp only [bR_ok, bR_exc, bR_bad, kR_ok, bS_ok, bS_exc, bS_bad, nS_nx, nS_rt, nS_exc, nS_bk, nS_ct, nS_bad, gS_nx, lS_nx, lS_ct, lS_bk, lS_rt, lS_exc, fS_rt, fS_nx, fS_exc, hS_nx, hS_rt, hS_exc, pR_ok, pR_exc, oR_some, oR_none, cR_true, cR_false, xS_ok, con_vl, con_sl, conS_nil, conS_cons, loopS_nil, compL_nil, handle_nil, handle_cons, ap_bodyF, takeR_ok, takeR_exc, nmS, coS, vaS, vaA, vdS, vdA, mvS, frS, tsS, blO, ptS, muS, owB, gbS, gbD, flS, tkS, goneS, frz_fz, frz_ow, frz_oo, mine_no, mine_fz, mine_ow, mine_oo, owned_no, owned_fz, owned_ow, owned_oo, flag_no, flag_fz, flag_ow, flag_oo, give, back, argS, ownIx, wb, one, two, intS, blS, itemsD_lst, itemsD_tup, itemsD_scr, itemsD_str, enumD_lst, enumD_tup, numD_nil, numD_cons, truD_bl, truD_non, truD_int, truD_lst, truD_tup, attD, recOf, putFD, ap_gNilD, ap_gTupD, ap_gConsD, List.getElem?_cons_zero, List.getElem?_cons_succ, List.getElem?_nil, List.set_cons_zero, List.set_cons_succ, List.map_cons, List.map_nil, List.length_cons, List.length_nil, List.cons_append, List.nil_append, List.append_nil, List.replicate, List.getD_cons_zero, List.getD_cons_succ, List.getD_nil, List.nodup_nil, ite_true, ite_false, Bool.not_true, Bool.not_false, Bool.false_eq_true, reduceCtorEq, Nat.reduceSub, Nat.reduceAdd, List.nodup_cons, List.not_mem_nil, not_false_eq_true, and_self, and_true, true_and, decide_true, decide_false, List.take_succ_cons, List.take_zero, sizeLine_eq, Nat.zero_le, Nat.reduceLeDiff, Nat.reduceLT, Nat.reduceEqDiff, Bool.true_and, Bool.false_and, Bool.and_true, Bool.and_false, Bool.true_or, Bool.false_or, Bool.or_true, Bool.or_false, cp_bind, cp_pure, cp_bindS, cp_seqS, cp_nmO, cp_cO, cp_frzD, cp_frzO, cp_valO, cp_valD, cp_binX, cp_unX, cp_caX, cp_nilA, cp_consA, cp_nilD, cp_consD, cp_free_eq, cp_setS, cp_retS, cp_exprS, cp_ifS, cp_nxS, cp_retN, cp_mvX, cp_frD, cp_frO, cp_truO, cp_tstB, cp_andT, cp_orT, cp_notT, cp_notX, cp_andO, cp_orO, cp_ifE, cp_chX, cp_noO, cp_ptO, cp_slX, cp_tupX, cp_lstX, cp_dic0X, cp_itX, cp_enX, cp_rg1, cp_gN, cp_asgS, cp_forS, cp_loopS_cons, cp_callX, cp_appF, cp_mkX, cp_fldS, cp_attX, cp_raiseS1, cp_raiseS0, cp_tryS, cp_muX, cp_muN, cp_mtX, cp_hasOw_eq, cp_gSubD, cp_parS, cp_kwX, cp_yesT, cp_compX, cp_compL_cons, e1, f1, e2]
theorem wh_step {q i : Int} {acc : List D} {s3 s4 s5 : Sl} (h3 : s3.mine = false) (h4 : s4.mine = false) (h5 : s5.mine = false) (hl : acc.length ≤ 900) : ∃ (q' : Int) (y : D) (s3' s4' s5' : Sl), s3'.mine = false ∧ s4'.mine = false ∧ s5'.mine = false ∧ AL y ∧
    whB [.ow true [.int q], .ow false acc, .fz (.int i), s3, s4, s5, .no] = .nx [.ow true [.int q'], .ow false (acc ++ [y]), .fz (.int i), s3', s4', s5', .no] := by
  obtain ⟨q1, n, hn, e1⟩ := wh_many (q := q) (a := .ow false acc) (b := .fz (.int i)) (c := s3) (d := s4) (e := s5) (s := .no)
  have er := fun ρ => rgS_nat (ρ := ρ) (n := n) (by omega)
  obtain ⟨ρ', ys, e2, ⟨q2, rfl⟩, hyl, hy⟩ := compX_inv (own := [6]) (t := gN 6) (el := frzD (tupX (consD (frzD (binX ixD (nmO 4) (frzO (callX F59 [] (consA (nmO 0) (consA (cO (.int 3)) nilA)))))) (consD (frzD (callX F60 [] (consA (nmO 0) nilA))) nilD)))) (f := rg1 (nmO 3)) (ds := rngD 0 n) (ρ := [.ow true [.int q1], .ow false acc, .fz (.int i), .fz (.int n), .ow false (wrd.map D.str), s5, .no])
    (fun ρ => ∃ q : Int, ρ = [.ow true [.int q], .ow false acc, .fz (.int i), .fz (.int n), .ow false (wrd.map D.str), s5, .no]) PT (by simp only [bR_ok, bR_exc, bR_bad, kR_ok, bS_ok, bS_exc, bS_bad, nS_nx, nS_rt, nS_exc, nS_bk, nS_ct, nS_bad, gS_nx, lS_nx, lS_ct, lS_bk, lS_rt, lS_exc, fS_rt, fS_nx, fS_exc, hS_nx, hS_rt, hS_exc, pR_ok, pR_exc, oR_some, oR_none, cR_true, cR_false, xS_ok, con_vl, con_sl, conS_nil, conS_cons, loopS_nil, compL_nil, handle_nil, handle_cons, ap_bodyF, takeR_ok, takeR_exc, nmS, coS, vaS, vaA, vdS, vdA, mvS, frS, tsS, blO, ptS, muS, owB, gbS, gbD, flS, tkS, goneS, frz_fz, frz_ow, frz_oo, mine_no, mine_fz, mine_ow, mine_oo, owned_no, owned_fz, owned_ow, owned_oo, flag_no, flag_fz, flag_ow, flag_oo, give, back, argS, ownIx, wb, one, two, intS, blS, itemsD_lst, itemsD_tup, itemsD_scr, itemsD_str, enumD_lst, enumD_tup, numD_nil, numD_cons, truD_bl, truD_non, truD_int, truD_lst, truD_tup, attD, recOf, putFD, ap_gNilD, ap_gTupD, ap_gConsD, List.getElem?_cons_zero, List.getElem?_cons_succ, List.getElem?_nil, List.set_cons_zero, List.set_cons_succ, List.map_cons, List.map_nil, List.length_cons, List.length_nil, List.cons_append, List.nil_append, List.append_nil, List.replicate, List.getD_cons_zero, List.getD_cons_succ, List.getD_nil, List.nodup_nil, ite_true, ite_false, Bool.not_true, Bool.not_false, Bool.false_eq_true, reduceCtorEq, Nat.reduceSub, Nat.reduceAdd, List.nodup_cons, List.not_mem_nil, not_false_eq_true, and_self, and_true, true_and, decide_true, decide_false, List.take_succ_cons, List.take_zero, sizeLine_eq, Nat.zero_le, Nat.reduceLeDiff, Nat.reduceLT, Nat.reduceEqDiff, Bool.true_and, Bool.false_and, Bool.and_true, Bool.and_false, Bool.true_or, Bool.false_or, Bool.or_true, Bool.or_false, cp_bind, cp_pure, cp_bindS, cp_seqS, cp_nmO, cp_cO, cp_frzD, cp_frzO, cp_valO, cp_valD, cp_binX, cp_unX, cp_caX, cp_nilA, cp_consA, cp_nilD, cp_consD, cp_free_eq, cp_setS, cp_retS, cp_exprS, cp_ifS, cp_nxS, cp_retN, cp_mvX, cp_frD, cp_frO, cp_truO, cp_tstB, cp_andT, cp_orT, cp_notT, cp_notX, cp_andO, cp_orO, cp_ifE, cp_chX, cp_noO, cp_ptO, cp_slX, cp_tupX, cp_lstX, cp_dic0X, cp_itX, cp_enX, cp_rg1, cp_gN, cp_asgS, cp_forS, cp_loopS_cons, cp_callX, cp_appF, cp_mkX, cp_fldS, cp_attX, cp_raiseS1, cp_raiseS0, cp_tryS, cp_muX, cp_muN, cp_mtX, cp_hasOw_eq, cp_gSubD, cp_parS, cp_kwX, cp_yesT, cp_compX, cp_compL_cons, er]) (by rw [rngD_length]; exact Nat.lt_of_le_of_lt (show _ ≤ 7 by omega) (by decide)) rfl ⟨q1, rfl⟩ (fun d hd ρ hi => by
      obtain ⟨q, rfl⟩ := hi
      obtain ⟨q', y, hy, e⟩ := wh_part (q := q) (n := n) (a := .ow false acc) (b := .fz (.int i)) (s5 := s5) (d := d)
      exact ⟨_, _, y, rfl, e, ⟨q', rfl⟩, hy⟩)
  rw [rngD_length] at hyl
  have ap := append_lst (xs := acc) (d := .tup ys) (by omega)
  have tp : tupleD (.lst ys) = some (.fz (.tup ys)) := rfl
  refine ⟨q2, .tup ys, .fz (.int n), .ow false (wrd.map D.str), .ow false ys, rfl, rfl, rfl, ⟨ys, rfl, by omega, hy⟩, ?_⟩
  unfold whB
  simp only [bR_ok, bR_exc, bR_bad, kR_ok, bS_ok, bS_exc, bS_bad, nS_nx, nS_rt, nS_exc, nS_bk, nS_ct, nS_bad, gS_nx, lS_nx, lS_ct, lS_bk, lS_rt, lS_exc, fS_rt, fS_nx, fS_exc, hS_nx, hS_rt, hS_exc, pR_ok, pR_exc, oR_some, oR_none, cR_true, cR_false, xS_ok, con_vl, con_sl, conS_nil, conS_cons, loopS_nil, compL_nil, handle_nil, handle_cons, ap_bodyF, takeR_ok, takeR_exc, nmS, coS, vaS, vaA, vdS, vdA, mvS, frS, tsS, blO, ptS, muS, owB, gbS, gbD, flS, tkS, goneS, frz_fz, frz_ow, frz_oo, mine_no, mine_fz, mine_ow, mine_oo, owned_no, owned_fz, owned_ow, owned_oo, flag_no, flag_fz, flag_ow, flag_oo, give, back, argS, ownIx, wb, one, two, intS, blS, itemsD_lst, itemsD_tup, itemsD_scr, itemsD_str, enumD_lst, enumD_tup, numD_nil, numD_cons, truD_bl, truD_non, truD_int, truD_lst, truD_tup, attD, recOf, putFD, ap_gNilD, ap_gTupD, ap_gConsD, List.getElem?_cons_zero, List.getElem?_cons_succ, List.getElem?_nil, List.set_cons_zero, List.set_cons_succ, List.map_cons, List.map_nil, List.length_cons, List.length_nil, List.cons_append, List.nil_append, List.append_nil, List.replicate, List.getD_cons_zero, List.getD_cons_succ, List.getD_nil, List.nodup_nil, ite_true, ite_false, Bool.not_true, Bool.not_false, Bool.false_eq_true, reduceCtorEq, Nat.reduceSub, Nat.reduceAdd, List.nodup_cons, List.not_mem_nil, not_false_eq_true, and_self, and_true, true_and, decide_true, decide_false, List.take_succ_cons, List.take_zero, sizeLine_eq, Nat.zero_le, Nat.reduceLeDiff, Nat.reduceLT, Nat.reduceEqDiff, Bool.true_and, Bool.false_and, Bool.and_true, Bool.and_false, Bool.true_or, Bool.false_or, Bool.or_true, Bool.or_false, cp_bind, cp_pure, cp_bindS, cp_seqS, cp_nmO, cp_cO, cp_frzD, cp_frzO, cp_valO, cp_valD, cp_binX, cp_unX, cp_caX, cp_nilA, cp_consA, cp_nilD, cp_consD, cp_free_eq, cp_setS, cp_retS, cp_exprS, cp_ifS, cp_nxS, cp_retN, cp_mvX, cp_frD, cp_frO, cp_truO, cp_tstB, cp_andT, cp_orT, cp_notT, cp_notX, cp_andO, cp_orO, cp_ifE, cp_chX, cp_noO, cp_ptO, cp_slX, cp_tupX, cp_lstX, cp_dic0X, cp_itX, cp_enX, cp_rg1, cp_gN, cp_asgS, cp_forS, cp_loopS_cons, cp_callX, cp_appF, cp_mkX, cp_fldS, cp_attX, cp_raiseS1, cp_raiseS0, cp_tryS, cp_muX, cp_muN, cp_mtX, cp_hasOw_eq, cp_gSubD, cp_parS, cp_kwX, cp_yesT, cp_compX, cp_compL_cons, ↓e1, h3, ↓wrdX, h4, ↓e2, h5, tp, ap]
theorem whomE {m : Bool} {q : Int} : ∃ (q' : Int) (d : D), F61 [.ow m [.int q]] = .ok [.ow m [.int q']] (.fz d) ∧ WH d := by
  obtain ⟨q1, n, hn, e1⟩ := wh_it (q := q) (a := .ow false []) (b := .no) (c := .no) (d := .no) (e := .no) (s := .no)
  obtain ⟨ρ', el, q2, acc, t, s3, s4, s5, rfl, hl, ha, ht, h3, h4, h5⟩ := loopS_inv (t := gN 2) (body := whB) (fun k ρ => ∃ (q : Int) (acc : List D) (t s3 s4 s5 : Sl), ρ = [.ow true [.int q], .ow false acc, t, s3, s4, s5, .no] ∧ acc.length = k ∧ (∀ p ∈ acc, AL p) ∧ t.mine = false ∧ s3.mine = false ∧ s4.mine = false ∧ s5.mine = false)
    (rngD 0 n) 0 [.ow true [.int q1], .ow false [], .no, .no, .no, .no, .no] ⟨_, _, _, _, _, _, rfl, rfl, fun _ z => (by cases z), rfl, rfl, rfl, rfl⟩ fun j d ρ hj hi => by
      obtain ⟨q, acc, t, s3, s4, s5, rfl, hl, ha, ht, h3, h4, h5⟩ := hi
      obtain ⟨i, rfl, i0, i1⟩ := mem_rngD (List.mem_of_getElem? hj)
      have hj' : j < (rngD 0 n).length := (List.getElem?_eq_some_iff.mp hj).1
      rw [rngD_length] at hj'
      obtain ⟨q', y, s3', s4', s5', k3, k4, k5, hy, e⟩ := wh_step (q := q) (i := i) (acc := acc) h3 h4 h5 (by omega)
      refine ⟨[.ow true [.int q], .ow false acc, .fz (.int i), s3, s4, s5, .no], _, ?_, .inl e, q', acc ++ [y], .fz (.int i), s3', s4', s5', rfl, by rw [List.length_append]; show acc.length + 1 = _; omega, fun p hp => ?_, rfl, k3, k4, k5⟩
      · simp only [bR_ok, bR_exc, bR_bad, kR_ok, bS_ok, bS_exc, bS_bad, nS_nx, nS_rt, nS_exc, nS_bk, nS_ct, nS_bad, gS_nx, lS_nx, lS_ct, lS_bk, lS_rt, lS_exc, fS_rt, fS_nx, fS_exc, hS_nx, hS_rt, hS_exc, pR_ok, pR_exc, oR_some, oR_none, cR_true, cR_false, xS_ok, con_vl, con_sl, conS_nil, conS_cons, loopS_nil, compL_nil, handle_nil, handle_cons, ap_bodyF, takeR_ok, takeR_exc, nmS, coS, vaS, vaA, vdS, vdA, mvS, frS, tsS, blO, ptS, muS, owB, gbS, gbD, flS, tkS, goneS, frz_fz, frz_ow, frz_oo, mine_no, mine_fz, mine_ow, mine_oo, owned_no, owned_fz, owned_ow, owned_oo, flag_no, flag_fz, flag_ow, flag_oo, give, back, argS, ownIx, wb, one, two, intS, blS, itemsD_lst, itemsD_tup, itemsD_scr, itemsD_str, enumD_lst, enumD_tup, numD_nil, numD_cons, truD_bl, truD_non, truD_int, truD_lst, truD_tup, attD, recOf, putFD, ap_gNilD, ap_gTupD, ap_gConsD, List.getElem?_cons_zero, List.getElem?_cons_succ, List.getElem?_nil, List.set_cons_zero, List.set_cons_succ, List.map_cons, List.map_nil, List.length_cons, List.length_nil, List.cons_append, List.nil_append, List.append_nil, List.replicate, List.getD_cons_zero, List.getD_cons_succ, List.getD_nil, List.nodup_nil, ite_true, ite_false, Bool.not_true, Bool.not_false, Bool.false_eq_true, reduceCtorEq, Nat.reduceSub, Nat.reduceAdd, List.nodup_cons, List.not_mem_nil, not_false_eq_true, and_self, and_true, true_and, decide_true, decide_false, List.take_succ_cons, List.take_zero, sizeLine_eq, Nat.zero_le, Nat.reduceLeDiff, Nat.reduceLT, Nat.reduceEqDiff, Bool.true_and, Bool.false_and, Bool.and_true, Bool.and_false, Bool.true_or, Bool.false_or, Bool.or_true, Bool.or_false, cp_bind, cp_pure, cp_bindS, cp_seqS, cp_nmO, cp_cO, cp_frzD, cp_frzO, cp_valO, cp_valD, cp_binX, cp_unX, cp_caX, cp_nilA, cp_consA, cp_nilD, cp_consD, cp_free_eq, cp_setS, cp_retS, cp_exprS, cp_ifS, cp_nxS, cp_retN, cp_mvX, cp_frD, cp_frO, cp_truO, cp_tstB, cp_andT, cp_orT, cp_notT, cp_notX, cp_andO, cp_orO, cp_ifE, cp_chX, cp_noO, cp_ptO, cp_slX, cp_tupX, cp_lstX, cp_dic0X, cp_itX, cp_enX, cp_rg1, cp_gN, cp_asgS, cp_forS, cp_loopS_cons, cp_callX, cp_appF, cp_mkX, cp_fldS, cp_attX, cp_raiseS1, cp_raiseS0, cp_tryS, cp_muX, cp_muN, cp_mtX, cp_hasOw_eq, cp_gSubD, cp_parS, cp_kwX, cp_yesT, cp_compX, cp_compL_cons, ht]
      · rcases List.mem_append.mp hp with hp | hp
        · exact ha p hp
        · simp only [List.mem_cons, List.not_mem_nil, or_false] at hp
          rw [hp]; exact hy
  rw [rngD_length] at hl
  have tp : tupleD (.lst acc) = some (.fz (.tup acc)) := rfl
  refine ⟨q2, .tup acc, ?_, acc, rfl, by omega, ha⟩
  unfold whB at el
  unfold F61 g61
  simp only [bR_ok, bR_exc, bR_bad, kR_ok, bS_ok, bS_exc, bS_bad, nS_nx, nS_rt, nS_exc, nS_bk, nS_ct, nS_bad, gS_nx, lS_nx, lS_ct, lS_bk, lS_rt, lS_exc, fS_rt, fS_nx, fS_exc, hS_nx, hS_rt, hS_exc, pR_ok, pR_exc, oR_some, oR_none, cR_true, cR_false, xS_ok, con_vl, con_sl, conS_nil, conS_cons, loopS_nil, compL_nil, handle_nil, handle_cons, ap_bodyF, takeR_ok, takeR_exc, nmS, coS, vaS, vaA, vdS, vdA, mvS, frS, tsS, blO, ptS, muS, owB, gbS, gbD, flS, tkS, goneS, frz_fz, frz_ow, frz_oo, mine_no, mine_fz, mine_ow, mine_oo, owned_no, owned_fz, owned_ow, owned_oo, flag_no, flag_fz, flag_ow, flag_oo, give, back, argS, ownIx, wb, one, two, intS, blS, itemsD_lst, itemsD_tup, itemsD_scr, itemsD_str, enumD_lst, enumD_tup, numD_nil, numD_cons, truD_bl, truD_non, truD_int, truD_lst, truD_tup, attD, recOf, putFD, ap_gNilD, ap_gTupD, ap_gConsD, List.getElem?_cons_zero, List.getElem?_cons_succ, List.getElem?_nil, List.set_cons_zero, List.set_cons_succ, List.map_cons, List.map_nil, List.length_cons, List.length_nil, List.cons_append, List.nil_append, List.append_nil, List.replicate, List.getD_cons_zero, List.getD_cons_succ, List.getD_nil, List.nodup_nil, ite_true, ite_false, Bool.not_true, Bool.not_false, Bool.false_eq_true, reduceCtorEq, Nat.reduceSub, Nat.reduceAdd, List.nodup_cons, List.not_mem_nil, not_false_eq_true, and_self, and_true, true_and, decide_true, decide_false, List.take_succ_cons, List.take_zero, sizeLine_eq, Nat.zero_le, Nat.reduceLeDiff, Nat.reduceLT, Nat.reduceEqDiff, Bool.true_and, Bool.false_and, Bool.and_true, Bool.and_false, Bool.true_or, Bool.false_or, Bool.or_true, Bool.or_false, cp_bind, cp_pure, cp_bindS, cp_seqS, cp_nmO, cp_cO, cp_frzD, cp_frzO, cp_valO, cp_valD, cp_binX, cp_unX, cp_caX, cp_nilA, cp_consA, cp_nilD, cp_consD, cp_free_eq, cp_setS, cp_retS, cp_exprS, cp_ifS, cp_nxS, cp_retN, cp_mvX, cp_frD, cp_frO, cp_truO, cp_tstB, cp_andT, cp_orT, cp_notT, cp_notX, cp_andO, cp_orO, cp_ifE, cp_chX, cp_noO, cp_ptO, cp_slX, cp_tupX, cp_lstX, cp_dic0X, cp_itX, cp_enX, cp_rg1, cp_gN, cp_asgS, cp_forS, cp_loopS_cons, cp_callX, cp_appF, cp_mkX, cp_fldS, cp_attX, cp_raiseS1, cp_raiseS0, cp_tryS, cp_muX, cp_muN, cp_mtX, cp_hasOw_eq, cp_gSubD, cp_parS, cp_kwX, cp_yesT, cp_compX, cp_compL_cons, ↓e1, ↓el, tp]
/-! ### a thing put otherwise -/
inductive PZ : Nat → D → Prop
  | str {n : Nat} {z : Str} : NM z → PZ n (.str z)
  | tup {n : Nat} {ds : List D} : ds.length ≤ 7 → (∀ d ∈ ds, PZ n d) → PZ (n + 1) (.tup ds)
def WW : Nat → Nat
  | 0 => 9
  | n + 1 => 7 * (WW n + 1)
theorem WW_mono (n : Nat) : 9 ≤ WW n ∧ 3 * WW n + 1 ≤ WW (n + 1) := by
  induction n with
  | zero => decide
  | succ n ih =>
    have : WW (n + 1 + 1) = 7 * (WW (n + 1) + 1) := rfl
    omega
theorem wts_le {B : Nat} : ∀ {ds : List D}, (∀ d ∈ ds, wtD d ≤ B) → wtDs ds ≤ ds.length * (B + 1)
  | [], _ => Nat.zero_le _
  | d :: ds, h => by
    have h1 := h d (by simp)
    have h2 := wts_le fun x hx => h x (List.mem_cons_of_mem d hx)
    rw [wtDs, List.length_cons, Nat.succ_mul]
    omega
theorem PZ.wt {n : Nat} {d : D} (h : PZ n d) : wtD d ≤ WW n := by
  induction h with
  | @str n z h =>
    have := (WW_mono n).1
    have := h.1
    show z.length ≤ _
    omega
  | @tup n ds h1 h2 ih =>
    have := wts_le ih
    have h3 := Nat.mul_le_mul_right (WW n + 1) h1
    show wtDs ds ≤ 7 * (WW n + 1)
    omega
theorem PZ.dp {n : Nat} {d : D} (h : PZ n d) : dpD d ≤ n := by
  induction h with
  | str h => exact Nat.zero_le _
  | @tup n ds h1 h2 ih =>
    have := dp_le ih
    show dpDs ds + 1 ≤ _
    omega
theorem PZ.sd {f : Bool} {n : Nat} {d : D} (h : PZ n d) : sdD f d = true := by
  induction h with
  | str h => exact sd_str (by have := h.1; omega) h.2
  | tup h1 h2 ih => exact sd_tup (by omega) ih
theorem WH.pz {d : D} (h : WH d) : PZ 3 d := by
  obtain ⟨ds, rfl, h1, h2⟩ := h
  refine .tup (by omega) fun a ha => ?_
  obtain ⟨ps, rfl, h3, h4⟩ := h2 a ha
  refine .tup h3 fun p hp => ?_
  obtain ⟨w, z, rfl, h5, h6⟩ := h4 p hp
  refine .tup (by show 2 ≤ 7; decide) fun x hx => ?_
  simp only [List.mem_cons, List.not_mem_nil, or_false] at hx
  rcases hx with rfl | rfl
  · refine .str ?_
    have : ∀ w ∈ wrd, NM w := by unfold NM; decide +kernel
    exact this w h5
  · exact .str h6
def OD (n : Nat) (d : D) : Prop := ∃ f, sdD f d = true ∧ wtD d ≤ 3 * WW n + 100 ∧ dpD d ≤ n + 3
theorem od_of {n : Nat} {d : D} (f : Bool) (h1 : sdD f d = true) (h2 : wtD d ≤ 100) (h3 : dpD d ≤ 3) : OD n d := ⟨f, h1, by omega, by omega⟩
theorem sds {f : Bool} {z : Str} (h : NM z) : sdD f (.str z) = true := sd_str (by have := h.1; omega) h.2
theorem sd_one {f : Bool} {d : D} (h : sdD f d = true) : sdD f (.tup [d]) = true := sd_tup (by show 1 ≤ 1000; decide) fun x hx => by
  simp only [List.mem_cons, List.not_mem_nil, or_false] at hx
  rw [hx]; exact h
theorem sdl_one {d : D} (h : sdD false d = true) : sdD false (.lst [d]) = true := sd_lst (by show 1 ≤ 1000; decide) fun x hx => by
  simp only [List.mem_cons, List.not_mem_nil, or_false] at hx
  rw [hx]; exact h
theorem od_str {m : Bool} {q : Int} {n : Nat} {z : Str} (h : NM z) : ∃ (q' : Int) (d : D), F64 [.ow m [.int q], .fz (.str z)] = .ok [.ow m [.int q'], .fz (.str z)] (.fz d) ∧ OD n d := by
  obtain ⟨p1, q1, v, e1, _, a1, b1⟩ := take (m := true) (p := 0) (q := q) (n := 16) trivial (by decide) (by decide)
  have k3 : kindIs "str" (.str z) = true := rfl
  have hz := h.1
  have u1 := upper_str (z := z) (by omega)
  have u2 := len_upper z
  have x1 : ("s" : Str).length = 1 := by decide
  have x2 : ("1" : Str).length = 1 := by decide
  have x3 : (" " : Str).length = 1 := by decide
  have t1 := addD_str (a := z) (b := "s") (by omega)
  have t2 := addD_str (a := z) (b := "1") (by omega)
  have t3 := addD_str (a := z) (b := " ") (by omega)
  have l1 := len_add z "s"
  have l2 := len_add z "1"
  have l3 := len_add z " "
  have c1 : ∀ (a b c d : D), addD (.lst [a, b, .str "", c, d, .str "child", .str "all", .non, .int 0, .bl true, .tup [.str z]]) (.lst [.lst [.str z], .dic [], .tup [.lst [.str z]], .str "abcdefghi", .str "one"]) = some (.ow false ([a, b, .str "", c, d, .str "child", .str "all", .non, .int 0, .bl true, .tup [.str z], .lst [.str z], .dic [], .tup [.lst [.str z]], .str "abcdefghi", .str "one"])) := fun a b c d => add_lst (by show 11 + 5 ≤ 1000; decide)
  have c3 := c1 (.str (Txt.upper z)) (.str (z ++ "s")) (.str (z ++ "1")) (.str (z ++ " "))
  obtain ⟨d, hd, f1⟩ := ixD_lst (xs := [.str (Txt.upper z), .str (z ++ "s"), .str "", .str (z ++ "1"), .str (z ++ " "), .str "child", .str "all", .non, .int 0, .bl true, .tup [.str z], .lst [.str z], .dic [], .tup [.lst [.str z]], .str "abcdefghi", .str "one"]) (i := v) a1 (by exact b1)
  refine ⟨q1, d, ?_, ?_⟩
  · generalize [D.str (Txt.upper z), .str (z ++ "s"), .str "", .str (z ++ "1"), .str (z ++ " "), .str "child", .str "all", .non, .int 0, .bl true, .tup [.str z], .lst [.str z], .dic [], .tup [.lst [.str z]], .str "abcdefghi", .str "one"] = L at c3 f1
    unfold F64 g64
    simp only [bR_ok, bR_exc, bR_bad, kR_ok, bS_ok, bS_exc, bS_bad, nS_nx, nS_rt, nS_exc, nS_bk, nS_ct, nS_bad, gS_nx, lS_nx, lS_ct, lS_bk, lS_rt, lS_exc, fS_rt, fS_nx, fS_exc, hS_nx, hS_rt, hS_exc, pR_ok, pR_exc, oR_some, oR_none, cR_true, cR_false, xS_ok, con_vl, con_sl, conS_nil, conS_cons, loopS_nil, compL_nil, handle_nil, handle_cons, ap_bodyF, takeR_ok, takeR_exc, nmS, coS, vaS, vaA, vdS, vdA, mvS, frS, tsS, blO, ptS, muS, owB, gbS, gbD, flS, tkS, goneS, frz_fz, frz_ow, frz_oo, mine_no, mine_fz, mine_ow, mine_oo, owned_no, owned_fz, owned_ow, owned_oo, flag_no, flag_fz, flag_ow, flag_oo, give, back, argS, ownIx, wb, one, two, intS, blS, itemsD_lst, itemsD_tup, itemsD_scr, itemsD_str, enumD_lst, enumD_tup, numD_nil, numD_cons, truD_bl, truD_non, truD_int, truD_lst, truD_tup, attD, recOf, putFD, ap_gNilD, ap_gTupD, ap_gConsD, List.getElem?_cons_zero, List.getElem?_cons_succ, List.getElem?_nil, List.set_cons_zero, List.set_cons_succ, List.map_cons, List.map_nil, List.length_cons, List.length_nil, List.cons_append, List.nil_append, List.append_nil, List.replicate, List.getD_cons_zero, List.getD_cons_succ, List.getD_nil, List.nodup_nil, ite_true, ite_false, Bool.not_true, Bool.not_false, Bool.false_eq_true, reduceCtorEq, Nat.reduceSub, Nat.reduceAdd, List.nodup_cons, List.not_mem_nil, not_false_eq_true, and_self, and_true, true_and, decide_true, decide_false, List.take_succ_cons, List.take_zero, sizeLine_eq, Nat.zero_le, Nat.reduceLeDiff, Nat.reduceLT, Nat.reduceEqDiff, Bool.true_and, Bool.false_and, Bool.and_true, Bool.and_false, Bool.true_or, Bool.false_or, Bool.or_true, Bool.or_false, cp_bind, cp_pure, cp_bindS, cp_seqS, cp_nmO, cp_cO, cp_frzD, cp_frzO, cp_valO, cp_valD, cp_binX, cp_unX, cp_caX, cp_nilA, cp_consA, cp_nilD, cp_consD, cp_free_eq, cp_setS, cp_retS, cp_exprS, cp_ifS, cp_nxS, cp_retN, cp_mvX, cp_frD, cp_frO, cp_truO, cp_tstB, cp_andT, cp_orT, cp_notT, cp_notX, cp_andO, cp_orO, cp_ifE, cp_chX, cp_noO, cp_ptO, cp_slX, cp_tupX, cp_lstX, cp_dic0X, cp_itX, cp_enX, cp_rg1, cp_gN, cp_asgS, cp_forS, cp_loopS_cons, cp_callX, cp_appF, cp_mkX, cp_fldS, cp_attX, cp_raiseS1, cp_raiseS0, cp_tryS, cp_muX, cp_muN, cp_mtX, cp_hasOw_eq, cp_gSubD, cp_parS, cp_kwX, cp_yesT, cp_compX, cp_compL_cons, str_is, k3, u1, t1, t2, t3, c3, e1, f1]
  · have aa : ∀ w : Str, ascS w = true → ascS (z ++ w) = true := fun w hw => by rw [asc_app, h.2, hw]; rfl
    simp only [List.mem_cons, List.not_mem_nil, or_false] at hd
    rcases hd with rfl | rfl | rfl | rfl | rfl | rfl | rfl | rfl | rfl | rfl | rfl | rfl | rfl | rfl | rfl | rfl
    · exact od_of false (sd_str (by omega) (asc_upper h.2)) (by show (Txt.upper z).length ≤ 100; omega) (Nat.zero_le _)
    · exact od_of false (sd_str (by omega) (aa _ (by decide +kernel))) (by show (z ++ "s").length ≤ 100; omega) (Nat.zero_le _)
    · exact od_of false (by kernel_rfl) (by decide) (by decide)
    · exact od_of false (sd_str (by omega) (aa _ (by decide +kernel))) (by show (z ++ "1").length ≤ 100; omega) (Nat.zero_le _)
    · exact od_of false (sd_str (by omega) (aa _ (by decide +kernel))) (by show (z ++ " ").length ≤ 100; omega) (Nat.zero_le _)
    · exact od_of false (by kernel_rfl) (by decide) (by decide)
    · exact od_of false (by kernel_rfl) (by decide) (by decide)
    · exact od_of false (by kernel_rfl) (by decide) (by decide)
    · exact od_of false (by kernel_rfl) (by decide) (by decide)
    · exact od_of false (by kernel_rfl) (by decide) (by decide)
    · exact od_of false (sd_one (sds h)) (by show z.length + 1 + 0 ≤ 100; omega) (by show max 0 0 + 1 ≤ 3; decide)
    · exact od_of false (sdl_one (sds h)) (by show z.length + 1 + 0 ≤ 100; omega) (by show max 0 0 + 1 ≤ 3; decide)
    · exact od_of true (by kernel_rfl) (by decide) (by decide)
    · exact od_of false (sd_one (sdl_one (sds h))) (by show z.length + 1 + 0 + 1 + 0 ≤ 100; omega) (by show max (max 0 0 + 1) 0 + 1 ≤ 3; decide)
    · exact od_of false (by kernel_rfl) (by decide) (by decide)
    · exact od_of false (by kernel_rfl) (by decide) (by decide)
theorem cutD_sub {xs : List D} (lo hi : Option Int) : (L2.WD.cutD xs lo hi).length ≤ xs.length ∧ ∀ x ∈ L2.WD.cutD xs lo hi, x ∈ xs := by
  unfold L2.WD.cutD
  refine ⟨?_, fun x hx => List.mem_of_mem_drop (List.mem_of_mem_take hx)⟩
  rw [List.length_take, List.length_drop]
  omega
theorem slT {ds : List D} (lo hi : Option Int) : slD lo hi (.tup ds) = some (.fz (.tup (L2.WD.cutD ds lo hi))) := rfl
theorem sd_in {f : Bool} {xs ys : List D} (h1 : ∀ d ∈ xs, sdD f d = true) (h2 : ∀ d ∈ ys, sdD f d = true) : ∀ d ∈ xs ++ ys, sdD f d = true := fun d hd => (List.mem_append.mp hd).elim (h1 d) (h2 d)
theorem dp_in {n : Nat} {xs ys : List D} (h1 : ∀ d ∈ xs, dpD d ≤ n) (h2 : ∀ d ∈ ys, dpD d ≤ n) : ∀ d ∈ xs ++ ys, dpD d ≤ n := fun d hd => (List.mem_append.mp hd).elim (h1 d) (h2 d)
theorem not_sT {ds : List D} : isiF [.tup ds, .ty "str"] = some (.fz (.bl false)) := by kernel_rfl
theorem od_tup {m : Bool} {q : Int} {n : Nat} {ds : List D} (h1 : ds.length ≤ 7) (h2 : ∀ d ∈ ds, PZ n d) : ∃ (q' : Int) (d : D), F64 [.ow m [.int q], .fz (.tup ds)] = .ok [.ow m [.int q'], .fz (.tup ds)] (.fz d) ∧ OD (n + 1) d := by
  obtain ⟨p1, q1, v, e1, _, a1, b1⟩ := take (m := true) (p := 0) (q := q) (n := 13) trivial (by decide) (by decide)
  have lt : listD (.tup ds) = some (.ow false ds) := rfl
  have rv : revD (.tup ds) = some (.fz (.tup ds.reverse)) := rfl
  have t1 := add_tup (xs := ds) (ys := [.str "one"]) (by show ds.length + 1 ≤ 1000; omega)
  obtain ⟨y1, y2⟩ := cutD_sub (xs := ds) none (some 1)
  have y3 := wt_cut ds none (some 1)
  have t2 := add_tup (xs := ds) (ys := L2.WD.cutD ds none (some 1)) (by omega)
  have c1 : ∀ (a b c d e f : D), addD (.lst [a, b, c, .tup [], .lst [], .non, .int 0, .str "", .dic [], d, e, .bl true]) (.lst [f]) = some (.ow false [a, b, c, .tup [], .lst [], .non, .int 0, .str "", .dic [], d, e, .bl true, f]) := fun a b c d e f => add_lst (by show 12 + 1 ≤ 1000; decide)
  obtain ⟨d, hd, f1⟩ := ixD_lst (xs := [.lst ds, .tup (ds ++ [.str "one"]), .tup (L2.WD.cutD ds none (some 1)), .tup [], .lst [], .non, .int 0, .str "", .dic [], .tup ds.reverse, .tup [.tup ds], .bl true, .tup (ds ++ L2.WD.cutD ds none (some 1))]) (i := v) a1 b1
  refine ⟨q1, d, ?_, ?_⟩
  · unfold F64 g64
    simp only [bR_ok, bR_exc, bR_bad, kR_ok, bS_ok, bS_exc, bS_bad, nS_nx, nS_rt, nS_exc, nS_bk, nS_ct, nS_bad, gS_nx, lS_nx, lS_ct, lS_bk, lS_rt, lS_exc, fS_rt, fS_nx, fS_exc, hS_nx, hS_rt, hS_exc, pR_ok, pR_exc, oR_some, oR_none, cR_true, cR_false, xS_ok, con_vl, con_sl, conS_nil, conS_cons, loopS_nil, compL_nil, handle_nil, handle_cons, ap_bodyF, takeR_ok, takeR_exc, nmS, coS, vaS, vaA, vdS, vdA, mvS, frS, tsS, blO, ptS, muS, owB, gbS, gbD, flS, tkS, goneS, frz_fz, frz_ow, frz_oo, mine_no, mine_fz, mine_ow, mine_oo, owned_no, owned_fz, owned_ow, owned_oo, flag_no, flag_fz, flag_ow, flag_oo, give, back, argS, ownIx, wb, one, two, intS, blS, itemsD_lst, itemsD_tup, itemsD_scr, itemsD_str, enumD_lst, enumD_tup, numD_nil, numD_cons, truD_bl, truD_non, truD_int, truD_lst, truD_tup, attD, recOf, putFD, ap_gNilD, ap_gTupD, ap_gConsD, List.getElem?_cons_zero, List.getElem?_cons_succ, List.getElem?_nil, List.set_cons_zero, List.set_cons_succ, List.map_cons, List.map_nil, List.length_cons, List.length_nil, List.cons_append, List.nil_append, List.append_nil, List.replicate, List.getD_cons_zero, List.getD_cons_succ, List.getD_nil, List.nodup_nil, ite_true, ite_false, Bool.not_true, Bool.not_false, Bool.false_eq_true, reduceCtorEq, Nat.reduceSub, Nat.reduceAdd, List.nodup_cons, List.not_mem_nil, not_false_eq_true, and_self, and_true, true_and, decide_true, decide_false, List.take_succ_cons, List.take_zero, sizeLine_eq, Nat.zero_le, Nat.reduceLeDiff, Nat.reduceLT, Nat.reduceEqDiff, Bool.true_and, Bool.false_and, Bool.and_true, Bool.and_false, Bool.true_or, Bool.false_or, Bool.or_true, Bool.or_false, cp_bind, cp_pure, cp_bindS, cp_seqS, cp_nmO, cp_cO, cp_frzD, cp_frzO, cp_valO, cp_valD, cp_binX, cp_unX, cp_caX, cp_nilA, cp_consA, cp_nilD, cp_consD, cp_free_eq, cp_setS, cp_retS, cp_exprS, cp_ifS, cp_nxS, cp_retN, cp_mvX, cp_frD, cp_frO, cp_truO, cp_tstB, cp_andT, cp_orT, cp_notT, cp_notX, cp_andO, cp_orO, cp_ifE, cp_chX, cp_noO, cp_ptO, cp_slX, cp_tupX, cp_lstX, cp_dic0X, cp_itX, cp_enX, cp_rg1, cp_gN, cp_asgS, cp_forS, cp_loopS_cons, cp_callX, cp_appF, cp_mkX, cp_fldS, cp_attX, cp_raiseS1, cp_raiseS0, cp_tryS, cp_muX, cp_muN, cp_mtX, cp_hasOw_eq, cp_gSubD, cp_parS, cp_kwX, cp_yesT, cp_compX, cp_compL_cons, not_sT, lt, t1, slT, rv, t2, c1, e1, f1]
  · have pt : PZ (n + 1) (.tup ds) := .tup h1 h2
    have w0 : wtDs ds ≤ WW (n + 1) := pt.wt
    have ww := (WW_mono (n + 1)).1
    have sd : ∀ d ∈ ds, sdD false d = true := fun d hd => (h2 d hd).sd
    have dp : ∀ d ∈ ds, dpD d ≤ n := fun d hd => (h2 d hd).dp
    have x1 : sdD false (.str "one") = true := by kernel_rfl
    simp only [List.mem_cons, List.not_mem_nil, or_false] at hd
    rcases hd with rfl | rfl | rfl | rfl | rfl | rfl | rfl | rfl | rfl | rfl | rfl | rfl | rfl
    · exact ⟨false, sd_lst (by omega) sd, by show wtDs ds ≤ _; omega, by have := dp_le dp; show dpDs ds + 1 ≤ _; omega⟩
    · refine ⟨false, sd_tup (by rw [List.length_append]; show _ + 1 ≤ _; omega) (sd_in sd fun x hx => ?_), ?_, ?_⟩
      · simp only [List.mem_cons, List.not_mem_nil, or_false] at hx
        rw [hx]; exact x1
      · show wtDs (ds ++ [.str "one"]) ≤ _
        rw [wt_app]
        show _ + 4 ≤ _
        omega
      · have := dp_le (dp_in (n := n) dp (ys := [.str "one"]) fun x hx => by
          simp only [List.mem_cons, List.not_mem_nil, or_false] at hx
          rw [hx]; exact Nat.zero_le _)
        show dpDs (ds ++ [.str "one"]) + 1 ≤ _
        omega
    · exact ⟨false, sd_tup (by omega) fun x hx => sd x (y2 x hx), by show wtDs (L2.WD.cutD ds none (some 1)) ≤ _; omega, by have := dp_le (n := n) fun x hx => dp x (y2 x hx); show dpDs (L2.WD.cutD ds none (some 1)) + 1 ≤ _; omega⟩
    · exact od_of false (by kernel_rfl) (by decide) (by decide)
    · exact od_of false (by kernel_rfl) (by decide) (by decide)
    · exact od_of false (by kernel_rfl) (by decide) (by decide)
    · exact od_of false (by kernel_rfl) (by decide) (by decide)
    · exact od_of false (by kernel_rfl) (by decide) (by decide)
    · exact od_of true (by kernel_rfl) (by decide) (by decide)
    · exact ⟨false, sd_tup (by rw [List.length_reverse]; omega) fun x hx => sd x (List.mem_reverse.mp hx), by show wtDs ds.reverse ≤ _; rw [wt_rev]; omega, by have := dp_le (n := n) fun x hx => dp x (List.mem_reverse.mp hx); show dpDs ds.reverse + 1 ≤ _; omega⟩
    · refine ⟨false, sd_one pt.sd, by show wtDs ds + 1 + 0 ≤ _; omega, ?_⟩
      have := dp_le dp
      show max (dpDs ds + 1) 0 + 1 ≤ _
      omega
    · exact od_of false (by kernel_rfl) (by decide) (by decide)
    · refine ⟨false, sd_tup (by rw [List.length_append]; omega) (sd_in sd fun x hx => sd x (y2 x hx)), ?_, ?_⟩
      · show wtDs (ds ++ _) ≤ _
        rw [wt_app]
        omega
      · have := dp_le (dp_in (n := n) dp fun x hx => dp x (y2 x hx))
        show dpDs (ds ++ L2.WD.cutD ds none (some 1)) + 1 ≤ _
        omega
theorem odE {m : Bool} {q : Int} {n : Nat} {d : D} (h : PZ n d) : ∃ (q' : Int) (d' : D), F64 [.ow m [.int q], .fz d] = .ok [.ow m [.int q'], .fz d] (.fz d') ∧ OD n d' := by
  cases h with
  | str h => exact od_str h
  | tup h1 h2 => exact od_tup h1 h2
def bentG : Mo Bool := (orT (notT (truO (frzO (caX isiF (consA (nmO 1) (consA (cO (.ty "tuple")) nilA)))))) (orT (tstB (binX eq0D (nmO 1) (frzO (tupX nilD)))) (orT (tstB (binX (eq2D false) (nmO 2) (cO (.int 0)))) (tstB (binX (eq2D false) (frzO (callX F59 [] (consA (nmO 0) (consA (cO (.int 7)) nilA)))) (cO (.int 0)))))))
theorem not_sS {z : Str} : isiF [.str z, .ty "tuple"] = some (.fz (.bl false)) := by kernel_rfl
theorem bentE : ∀ (N k n : Nat) (m : Bool) (q : Int) (d : D), k < N → PZ n d → ∃ (q' : Int) (d' : D), F65 N [.ow m [.int q], .fz d, .fz (.int (k : Nat))] = .ok [.ow m [.int q'], .fz d, .fz (.int (k : Nat))] (.fz d') ∧ OD n d' := by
  intro N
  induction N with
  | zero => intro k n m q d h; omega
  | succ N ih =>
    intro k n m q d hk h
    have easy : ∀ q1 : Int, bentG [.ow true [.int q], .fz d, .fz (.int (k : Nat)), .no, .no] = .ok [.ow true [.int q1], .fz d, .fz (.int (k : Nat)), .no, .no] true → ∃ (q' : Int) (d' : D), F65 (N + 1) [.ow m [.int q], .fz d, .fz (.int (k : Nat))] = .ok [.ow m [.int q'], .fz d, .fz (.int (k : Nat))] (.fz d') ∧ OD n d' := fun q1 e => by
      obtain ⟨q2, d', e2, hd⟩ := odE (m := true) (q := q1) h
      refine ⟨q2, d', ?_, hd⟩
      unfold bentG at e
      show bodyF 5 (g65 (F65 N)) _ = _
      unfold g65
      simp only [bR_ok, bR_exc, bR_bad, kR_ok, bS_ok, bS_exc, bS_bad, nS_nx, nS_rt, nS_exc, nS_bk, nS_ct, nS_bad, gS_nx, lS_nx, lS_ct, lS_bk, lS_rt, lS_exc, fS_rt, fS_nx, fS_exc, hS_nx, hS_rt, hS_exc, pR_ok, pR_exc, oR_some, oR_none, cR_true, cR_false, xS_ok, con_vl, con_sl, conS_nil, conS_cons, loopS_nil, compL_nil, handle_nil, handle_cons, ap_bodyF, takeR_ok, takeR_exc, nmS, coS, vaS, vaA, vdS, vdA, mvS, frS, tsS, blO, ptS, muS, owB, gbS, gbD, flS, tkS, goneS, frz_fz, frz_ow, frz_oo, mine_no, mine_fz, mine_ow, mine_oo, owned_no, owned_fz, owned_ow, owned_oo, flag_no, flag_fz, flag_ow, flag_oo, give, back, argS, ownIx, wb, one, two, intS, blS, itemsD_lst, itemsD_tup, itemsD_scr, itemsD_str, enumD_lst, enumD_tup, numD_nil, numD_cons, truD_bl, truD_non, truD_int, truD_lst, truD_tup, attD, recOf, putFD, ap_gNilD, ap_gTupD, ap_gConsD, List.getElem?_cons_zero, List.getElem?_cons_succ, List.getElem?_nil, List.set_cons_zero, List.set_cons_succ, List.map_cons, List.map_nil, List.length_cons, List.length_nil, List.cons_append, List.nil_append, List.append_nil, List.replicate, List.getD_cons_zero, List.getD_cons_succ, List.getD_nil, List.nodup_nil, ite_true, ite_false, Bool.not_true, Bool.not_false, Bool.false_eq_true, reduceCtorEq, Nat.reduceSub, Nat.reduceAdd, List.nodup_cons, List.not_mem_nil, not_false_eq_true, and_self, and_true, true_and, decide_true, decide_false, List.take_succ_cons, List.take_zero, sizeLine_eq, Nat.zero_le, Nat.reduceLeDiff, Nat.reduceLT, Nat.reduceEqDiff, Bool.true_and, Bool.false_and, Bool.and_true, Bool.and_false, Bool.true_or, Bool.false_or, Bool.or_true, Bool.or_false, cp_bind, cp_pure, cp_bindS, cp_seqS, cp_nmO, cp_cO, cp_frzD, cp_frzO, cp_valO, cp_valD, cp_binX, cp_unX, cp_caX, cp_nilA, cp_consA, cp_nilD, cp_consD, cp_free_eq, cp_setS, cp_retS, cp_exprS, cp_ifS, cp_nxS, cp_retN, cp_mvX, cp_frD, cp_frO, cp_truO, cp_tstB, cp_andT, cp_orT, cp_notT, cp_notX, cp_andO, cp_orO, cp_ifE, cp_chX, cp_noO, cp_ptO, cp_slX, cp_tupX, cp_lstX, cp_dic0X, cp_itX, cp_enX, cp_rg1, cp_gN, cp_asgS, cp_forS, cp_loopS_cons, cp_callX, cp_appF, cp_mkX, cp_fldS, cp_attX, cp_raiseS1, cp_raiseS0, cp_tryS, cp_muX, cp_muN, cp_mtX, cp_hasOw_eq, cp_gSubD, cp_parS, cp_kwX, cp_yesT, cp_compX, cp_compL_cons, ↓e, e2]
    cases h with
    | str h =>
      refine easy q ?_
      unfold bentG
      simp only [bR_ok, bR_exc, bR_bad, kR_ok, bS_ok, bS_exc, bS_bad, nS_nx, nS_rt, nS_exc, nS_bk, nS_ct, nS_bad, gS_nx, lS_nx, lS_ct, lS_bk, lS_rt, lS_exc, fS_rt, fS_nx, fS_exc, hS_nx, hS_rt, hS_exc, pR_ok, pR_exc, oR_some, oR_none, cR_true, cR_false, xS_ok, con_vl, con_sl, conS_nil, conS_cons, loopS_nil, compL_nil, handle_nil, handle_cons, ap_bodyF, takeR_ok, takeR_exc, nmS, coS, vaS, vaA, vdS, vdA, mvS, frS, tsS, blO, ptS, muS, owB, gbS, gbD, flS, tkS, goneS, frz_fz, frz_ow, frz_oo, mine_no, mine_fz, mine_ow, mine_oo, owned_no, owned_fz, owned_ow, owned_oo, flag_no, flag_fz, flag_ow, flag_oo, give, back, argS, ownIx, wb, one, two, intS, blS, itemsD_lst, itemsD_tup, itemsD_scr, itemsD_str, enumD_lst, enumD_tup, numD_nil, numD_cons, truD_bl, truD_non, truD_int, truD_lst, truD_tup, attD, recOf, putFD, ap_gNilD, ap_gTupD, ap_gConsD, List.getElem?_cons_zero, List.getElem?_cons_succ, List.getElem?_nil, List.set_cons_zero, List.set_cons_succ, List.map_cons, List.map_nil, List.length_cons, List.length_nil, List.cons_append, List.nil_append, List.append_nil, List.replicate, List.getD_cons_zero, List.getD_cons_succ, List.getD_nil, List.nodup_nil, ite_true, ite_false, Bool.not_true, Bool.not_false, Bool.false_eq_true, reduceCtorEq, Nat.reduceSub, Nat.reduceAdd, List.nodup_cons, List.not_mem_nil, not_false_eq_true, and_self, and_true, true_and, decide_true, decide_false, List.take_succ_cons, List.take_zero, sizeLine_eq, Nat.zero_le, Nat.reduceLeDiff, Nat.reduceLT, Nat.reduceEqDiff, Bool.true_and, Bool.false_and, Bool.and_true, Bool.and_false, Bool.true_or, Bool.false_or, Bool.or_true, Bool.or_false, cp_bind, cp_pure, cp_bindS, cp_seqS, cp_nmO, cp_cO, cp_frzD, cp_frzO, cp_valO, cp_valD, cp_binX, cp_unX, cp_caX, cp_nilA, cp_consA, cp_nilD, cp_consD, cp_free_eq, cp_setS, cp_retS, cp_exprS, cp_ifS, cp_nxS, cp_retN, cp_mvX, cp_frD, cp_frO, cp_truO, cp_tstB, cp_andT, cp_orT, cp_notT, cp_notX, cp_andO, cp_orO, cp_ifE, cp_chX, cp_noO, cp_ptO, cp_slX, cp_tupX, cp_lstX, cp_dic0X, cp_itX, cp_enX, cp_rg1, cp_gN, cp_asgS, cp_forS, cp_loopS_cons, cp_callX, cp_appF, cp_mkX, cp_fldS, cp_attX, cp_raiseS1, cp_raiseS0, cp_tryS, cp_muX, cp_muN, cp_mtX, cp_hasOw_eq, cp_gSubD, cp_parS, cp_kwX, cp_yesT, cp_compX, cp_compL_cons, not_sS]
    | @tup n ds h1 h2 =>
      cases ds with
      | nil => exact easy q (by kernel_rfl)
      | cons x xs =>
        obtain ⟨p1, q1, v1, e1, _, a1, b1⟩ := take (m := true) (p := 0) (q := q) (n := 7) trivial (by decide) (by decide)
        cases k with
        | zero =>
          refine easy q ?_
          unfold bentG
          have z0 : eq2D false (.int ((0 : Nat) : Int)) (.int 0) = some (.fz (.bl true)) := by kernel_rfl
          simp only [bR_ok, bR_exc, bR_bad, kR_ok, bS_ok, bS_exc, bS_bad, nS_nx, nS_rt, nS_exc, nS_bk, nS_ct, nS_bad, gS_nx, lS_nx, lS_ct, lS_bk, lS_rt, lS_exc, fS_rt, fS_nx, fS_exc, hS_nx, hS_rt, hS_exc, pR_ok, pR_exc, oR_some, oR_none, cR_true, cR_false, xS_ok, con_vl, con_sl, conS_nil, conS_cons, loopS_nil, compL_nil, handle_nil, handle_cons, ap_bodyF, takeR_ok, takeR_exc, nmS, coS, vaS, vaA, vdS, vdA, mvS, frS, tsS, blO, ptS, muS, owB, gbS, gbD, flS, tkS, goneS, frz_fz, frz_ow, frz_oo, mine_no, mine_fz, mine_ow, mine_oo, owned_no, owned_fz, owned_ow, owned_oo, flag_no, flag_fz, flag_ow, flag_oo, give, back, argS, ownIx, wb, one, two, intS, blS, itemsD_lst, itemsD_tup, itemsD_scr, itemsD_str, enumD_lst, enumD_tup, numD_nil, numD_cons, truD_bl, truD_non, truD_int, truD_lst, truD_tup, attD, recOf, putFD, ap_gNilD, ap_gTupD, ap_gConsD, List.getElem?_cons_zero, List.getElem?_cons_succ, List.getElem?_nil, List.set_cons_zero, List.set_cons_succ, List.map_cons, List.map_nil, List.length_cons, List.length_nil, List.cons_append, List.nil_append, List.append_nil, List.replicate, List.getD_cons_zero, List.getD_cons_succ, List.getD_nil, List.nodup_nil, ite_true, ite_false, Bool.not_true, Bool.not_false, Bool.false_eq_true, reduceCtorEq, Nat.reduceSub, Nat.reduceAdd, List.nodup_cons, List.not_mem_nil, not_false_eq_true, and_self, and_true, true_and, decide_true, decide_false, List.take_succ_cons, List.take_zero, sizeLine_eq, Nat.zero_le, Nat.reduceLeDiff, Nat.reduceLT, Nat.reduceEqDiff, Bool.true_and, Bool.false_and, Bool.and_true, Bool.and_false, Bool.true_or, Bool.false_or, Bool.or_true, Bool.or_false, cp_bind, cp_pure, cp_bindS, cp_seqS, cp_nmO, cp_cO, cp_frzD, cp_frzO, cp_valO, cp_valD, cp_binX, cp_unX, cp_caX, cp_nilA, cp_consA, cp_nilD, cp_consD, cp_free_eq, cp_setS, cp_retS, cp_exprS, cp_ifS, cp_nxS, cp_retN, cp_mvX, cp_frD, cp_frO, cp_truO, cp_tstB, cp_andT, cp_orT, cp_notT, cp_notX, cp_andO, cp_orO, cp_ifE, cp_chX, cp_noO, cp_ptO, cp_slX, cp_tupX, cp_lstX, cp_dic0X, cp_itX, cp_enX, cp_rg1, cp_gN, cp_asgS, cp_forS, cp_loopS_cons, cp_callX, cp_appF, cp_mkX, cp_fldS, cp_attX, cp_raiseS1, cp_raiseS0, cp_tryS, cp_muX, cp_muN, cp_mtX, cp_hasOw_eq, cp_gSubD, cp_parS, cp_kwX, cp_yesT, cp_compX, cp_compL_cons, tup_is, eq0_cons, z0]
        | succ k =>
          have z1 : eq2D false (.int ((k + 1 : Nat) : Int)) (.int 0) = some (.fz (.bl false)) := by rw [eq2_int, decide_eq_false (by omega)]
          have g : bentG [.ow true [.int q], .fz (.tup (x :: xs)), .fz (.int ((k + 1 : Nat) : Int)), .no, .no] = .ok [.ow true [.int q1], .fz (.tup (x :: xs)), .fz (.int ((k + 1 : Nat) : Int)), .no, .no] (decide (v1 = 0)) := by
            unfold bentG
            simp only [bR_ok, bR_exc, bR_bad, kR_ok, bS_ok, bS_exc, bS_bad, nS_nx, nS_rt, nS_exc, nS_bk, nS_ct, nS_bad, gS_nx, lS_nx, lS_ct, lS_bk, lS_rt, lS_exc, fS_rt, fS_nx, fS_exc, hS_nx, hS_rt, hS_exc, pR_ok, pR_exc, oR_some, oR_none, cR_true, cR_false, xS_ok, con_vl, con_sl, conS_nil, conS_cons, loopS_nil, compL_nil, handle_nil, handle_cons, ap_bodyF, takeR_ok, takeR_exc, nmS, coS, vaS, vaA, vdS, vdA, mvS, frS, tsS, blO, ptS, muS, owB, gbS, gbD, flS, tkS, goneS, frz_fz, frz_ow, frz_oo, mine_no, mine_fz, mine_ow, mine_oo, owned_no, owned_fz, owned_ow, owned_oo, flag_no, flag_fz, flag_ow, flag_oo, give, back, argS, ownIx, wb, one, two, intS, blS, itemsD_lst, itemsD_tup, itemsD_scr, itemsD_str, enumD_lst, enumD_tup, numD_nil, numD_cons, truD_bl, truD_non, truD_int, truD_lst, truD_tup, attD, recOf, putFD, ap_gNilD, ap_gTupD, ap_gConsD, List.getElem?_cons_zero, List.getElem?_cons_succ, List.getElem?_nil, List.set_cons_zero, List.set_cons_succ, List.map_cons, List.map_nil, List.length_cons, List.length_nil, List.cons_append, List.nil_append, List.append_nil, List.replicate, List.getD_cons_zero, List.getD_cons_succ, List.getD_nil, List.nodup_nil, ite_true, ite_false, Bool.not_true, Bool.not_false, Bool.false_eq_true, reduceCtorEq, Nat.reduceSub, Nat.reduceAdd, List.nodup_cons, List.not_mem_nil, not_false_eq_true, and_self, and_true, true_and, decide_true, decide_false, List.take_succ_cons, List.take_zero, sizeLine_eq, Nat.zero_le, Nat.reduceLeDiff, Nat.reduceLT, Nat.reduceEqDiff, Bool.true_and, Bool.false_and, Bool.and_true, Bool.and_false, Bool.true_or, Bool.false_or, Bool.or_true, Bool.or_false, cp_bind, cp_pure, cp_bindS, cp_seqS, cp_nmO, cp_cO, cp_frzD, cp_frzO, cp_valO, cp_valD, cp_binX, cp_unX, cp_caX, cp_nilA, cp_consA, cp_nilD, cp_consD, cp_free_eq, cp_setS, cp_retS, cp_exprS, cp_ifS, cp_nxS, cp_retN, cp_mvX, cp_frD, cp_frO, cp_truO, cp_tstB, cp_andT, cp_orT, cp_notT, cp_notX, cp_andO, cp_orO, cp_ifE, cp_chX, cp_noO, cp_ptO, cp_slX, cp_tupX, cp_lstX, cp_dic0X, cp_itX, cp_enX, cp_rg1, cp_gN, cp_asgS, cp_forS, cp_loopS_cons, cp_callX, cp_appF, cp_mkX, cp_fldS, cp_attX, cp_raiseS1, cp_raiseS0, cp_tryS, cp_muX, cp_muN, cp_mtX, cp_hasOw_eq, cp_gSubD, cp_parS, cp_kwX, cp_yesT, cp_compX, cp_compL_cons, tup_is, eq0_cons, z1, e1, eq2_int]
          by_cases c : v1 = 0
          · rw [decide_eq_true c] at g
            exact easy q1 g
          · rw [decide_eq_false c] at g
            generalize hds : x :: xs = ds at *
            have hl : 1 ≤ ds.length := by rw [← hds]; simp
            obtain ⟨p2, q2, at', e2, _, a2, b2⟩ := take (m := true) (p := 0) (q := q1) (n := (ds.length : Int)) trivial (by omega) (by omega)
            obtain ⟨p3, q3, way, e3, _, a3, b3⟩ := take (m := true) (p := 0) (q := q2) (n := 9) trivial (by decide) (by decide)
            have f1 : (parS 3 4 (consD (frzD (callX F59 [] (consA (nmO 0) (consA (frzO (caX (one lenD) (consA (nmO 1) nilA))) nilA)))) (consD (frzD (callX F59 [] (consA (nmO 0) (consA (cO (.int 9)) nilA)))) nilD))) [.ow true [.int q1], .fz (.tup ds), .fz (.int ((k + 1 : Nat) : Int)), .no, .no] = .nx [.ow true [.int q3], .fz (.tup ds), .fz (.int ((k + 1 : Nat) : Int)), .fz (.int at'), .fz (.int way)] := by
              simp only [bR_ok, bR_exc, bR_bad, kR_ok, bS_ok, bS_exc, bS_bad, nS_nx, nS_rt, nS_exc, nS_bk, nS_ct, nS_bad, gS_nx, lS_nx, lS_ct, lS_bk, lS_rt, lS_exc, fS_rt, fS_nx, fS_exc, hS_nx, hS_rt, hS_exc, pR_ok, pR_exc, oR_some, oR_none, cR_true, cR_false, xS_ok, con_vl, con_sl, conS_nil, conS_cons, loopS_nil, compL_nil, handle_nil, handle_cons, ap_bodyF, takeR_ok, takeR_exc, nmS, coS, vaS, vaA, vdS, vdA, mvS, frS, tsS, blO, ptS, muS, owB, gbS, gbD, flS, tkS, goneS, frz_fz, frz_ow, frz_oo, mine_no, mine_fz, mine_ow, mine_oo, owned_no, owned_fz, owned_ow, owned_oo, flag_no, flag_fz, flag_ow, flag_oo, give, back, argS, ownIx, wb, one, two, intS, blS, itemsD_lst, itemsD_tup, itemsD_scr, itemsD_str, enumD_lst, enumD_tup, numD_nil, numD_cons, truD_bl, truD_non, truD_int, truD_lst, truD_tup, attD, recOf, putFD, ap_gNilD, ap_gTupD, ap_gConsD, List.getElem?_cons_zero, List.getElem?_cons_succ, List.getElem?_nil, List.set_cons_zero, List.set_cons_succ, List.map_cons, List.map_nil, List.length_cons, List.length_nil, List.cons_append, List.nil_append, List.append_nil, List.replicate, List.getD_cons_zero, List.getD_cons_succ, List.getD_nil, List.nodup_nil, ite_true, ite_false, Bool.not_true, Bool.not_false, Bool.false_eq_true, reduceCtorEq, Nat.reduceSub, Nat.reduceAdd, List.nodup_cons, List.not_mem_nil, not_false_eq_true, and_self, and_true, true_and, decide_true, decide_false, List.take_succ_cons, List.take_zero, sizeLine_eq, Nat.zero_le, Nat.reduceLeDiff, Nat.reduceLT, Nat.reduceEqDiff, Bool.true_and, Bool.false_and, Bool.and_true, Bool.and_false, Bool.true_or, Bool.false_or, Bool.or_true, Bool.or_false, cp_bind, cp_pure, cp_bindS, cp_seqS, cp_nmO, cp_cO, cp_frzD, cp_frzO, cp_valO, cp_valD, cp_binX, cp_unX, cp_caX, cp_nilA, cp_consA, cp_nilD, cp_consD, cp_free_eq, cp_setS, cp_retS, cp_exprS, cp_ifS, cp_nxS, cp_retN, cp_mvX, cp_frD, cp_frO, cp_truO, cp_tstB, cp_andT, cp_orT, cp_notT, cp_notX, cp_andO, cp_orO, cp_ifE, cp_chX, cp_noO, cp_ptO, cp_slX, cp_tupX, cp_lstX, cp_dic0X, cp_itX, cp_enX, cp_rg1, cp_gN, cp_asgS, cp_forS, cp_loopS_cons, cp_callX, cp_appF, cp_mkX, cp_fldS, cp_attX, cp_raiseS1, cp_raiseS0, cp_tryS, cp_muX, cp_muN, cp_mtX, cp_hasOw_eq, cp_gSubD, cp_parS, cp_kwX, cp_yesT, cp_compX, cp_compL_cons, lenD_tup, e2, e3, free2, Bool.and_self]
            obtain ⟨y1, y2⟩ := cutD_sub (xs := ds) none (some at')
            obtain ⟨y3, y4⟩ := cutD_sub (xs := ds) (some (at' + 1)) none
            obtain ⟨y5, y6⟩ := cutD_sub (xs := ds) none (some (at' + 1))
            obtain ⟨y7, y8⟩ := cutD_sub (xs := ds) (some at') none
            have w1 := wt_cut ds none (some at')
            have w3 := wt_cut ds (some (at' + 1)) none
            have w5 := wt_cut ds none (some (at' + 1))
            have w7 := wt_cut ds (some at') none
            have sd : ∀ f, ∀ d ∈ ds, sdD f d = true := fun f d hd => (h2 d hd).sd
            have dp : ∀ d ∈ ds, dpD d ≤ n := fun d hd => (h2 d hd).dp
            have w0 : wtDs ds ≤ WW (n + 1) := (PZ.tup h1 h2).wt
            unfold bentG at g
            by_cases c2 : way = 0
            · have t1 := add_tup (xs := L2.WD.cutD ds none (some at')) (ys := L2.WD.cutD ds (some (at' + 1)) none) (by omega)
              refine ⟨q3, .tup (L2.WD.cutD ds none (some at') ++ L2.WD.cutD ds (some (at' + 1)) none), ?_, false, sd_tup (by rw [List.length_append]; omega) (sd_in (fun d hd => sd _ d (y2 d hd)) fun d hd => sd _ d (y4 d hd)), ?_, ?_⟩
              · show bodyF 5 (g65 (F65 N)) _ = _
                unfold g65
                simp only [bR_ok, bR_exc, bR_bad, kR_ok, bS_ok, bS_exc, bS_bad, nS_nx, nS_rt, nS_exc, nS_bk, nS_ct, nS_bad, gS_nx, lS_nx, lS_ct, lS_bk, lS_rt, lS_exc, fS_rt, fS_nx, fS_exc, hS_nx, hS_rt, hS_exc, pR_ok, pR_exc, oR_some, oR_none, cR_true, cR_false, xS_ok, con_vl, con_sl, conS_nil, conS_cons, loopS_nil, compL_nil, handle_nil, handle_cons, ap_bodyF, takeR_ok, takeR_exc, nmS, coS, vaS, vaA, vdS, vdA, mvS, frS, tsS, blO, ptS, muS, owB, gbS, gbD, flS, tkS, goneS, frz_fz, frz_ow, frz_oo, mine_no, mine_fz, mine_ow, mine_oo, owned_no, owned_fz, owned_ow, owned_oo, flag_no, flag_fz, flag_ow, flag_oo, give, back, argS, ownIx, wb, one, two, intS, blS, itemsD_lst, itemsD_tup, itemsD_scr, itemsD_str, enumD_lst, enumD_tup, numD_nil, numD_cons, truD_bl, truD_non, truD_int, truD_lst, truD_tup, attD, recOf, putFD, ap_gNilD, ap_gTupD, ap_gConsD, List.getElem?_cons_zero, List.getElem?_cons_succ, List.getElem?_nil, List.set_cons_zero, List.set_cons_succ, List.map_cons, List.map_nil, List.length_cons, List.length_nil, List.cons_append, List.nil_append, List.append_nil, List.replicate, List.getD_cons_zero, List.getD_cons_succ, List.getD_nil, List.nodup_nil, ite_true, ite_false, Bool.not_true, Bool.not_false, Bool.false_eq_true, reduceCtorEq, Nat.reduceSub, Nat.reduceAdd, List.nodup_cons, List.not_mem_nil, not_false_eq_true, and_self, and_true, true_and, decide_true, decide_false, List.take_succ_cons, List.take_zero, sizeLine_eq, Nat.zero_le, Nat.reduceLeDiff, Nat.reduceLT, Nat.reduceEqDiff, Bool.true_and, Bool.false_and, Bool.and_true, Bool.and_false, Bool.true_or, Bool.false_or, Bool.or_true, Bool.or_false, cp_bind, cp_pure, cp_bindS, cp_seqS, cp_nmO, cp_cO, cp_frzD, cp_frzO, cp_valO, cp_valD, cp_binX, cp_unX, cp_caX, cp_nilA, cp_consA, cp_nilD, cp_consD, cp_free_eq, cp_setS, cp_retS, cp_exprS, cp_ifS, cp_nxS, cp_retN, cp_mvX, cp_frD, cp_frO, cp_truO, cp_tstB, cp_andT, cp_orT, cp_notT, cp_notX, cp_andO, cp_orO, cp_ifE, cp_chX, cp_noO, cp_ptO, cp_slX, cp_tupX, cp_lstX, cp_dic0X, cp_itX, cp_enX, cp_rg1, cp_gN, cp_asgS, cp_forS, cp_loopS_cons, cp_callX, cp_appF, cp_mkX, cp_fldS, cp_attX, cp_raiseS1, cp_raiseS0, cp_tryS, cp_muX, cp_muN, cp_mtX, cp_hasOw_eq, cp_gSubD, cp_parS, cp_kwX, cp_yesT, cp_compX, cp_compL_cons, ↓g, ↓f1, eq2_int, decide_eq_true c2, slT, ptS, addD_int, t1]
              · show wtDs (_ ++ _) ≤ _
                rw [wt_app]
                omega
              · have := dp_le (dp_in (n := n) (fun d hd => dp d (y2 d hd)) fun d hd => dp d (y4 d hd))
                show dpDs (_ ++ _) + 1 ≤ _
                omega
            · by_cases c3 : way = 1
              · have t1 := add_tup (xs := L2.WD.cutD ds none (some (at' + 1))) (ys := L2.WD.cutD ds (some at') none) (by omega)
                refine ⟨q3, .tup (L2.WD.cutD ds none (some (at' + 1)) ++ L2.WD.cutD ds (some at') none), ?_, false, sd_tup (by rw [List.length_append]; omega) (sd_in (fun d hd => sd _ d (y6 d hd)) fun d hd => sd _ d (y8 d hd)), ?_, ?_⟩
                · show bodyF 5 (g65 (F65 N)) _ = _
                  unfold g65
                  simp only [bR_ok, bR_exc, bR_bad, kR_ok, bS_ok, bS_exc, bS_bad, nS_nx, nS_rt, nS_exc, nS_bk, nS_ct, nS_bad, gS_nx, lS_nx, lS_ct, lS_bk, lS_rt, lS_exc, fS_rt, fS_nx, fS_exc, hS_nx, hS_rt, hS_exc, pR_ok, pR_exc, oR_some, oR_none, cR_true, cR_false, xS_ok, con_vl, con_sl, conS_nil, conS_cons, loopS_nil, compL_nil, handle_nil, handle_cons, ap_bodyF, takeR_ok, takeR_exc, nmS, coS, vaS, vaA, vdS, vdA, mvS, frS, tsS, blO, ptS, muS, owB, gbS, gbD, flS, tkS, goneS, frz_fz, frz_ow, frz_oo, mine_no, mine_fz, mine_ow, mine_oo, owned_no, owned_fz, owned_ow, owned_oo, flag_no, flag_fz, flag_ow, flag_oo, give, back, argS, ownIx, wb, one, two, intS, blS, itemsD_lst, itemsD_tup, itemsD_scr, itemsD_str, enumD_lst, enumD_tup, numD_nil, numD_cons, truD_bl, truD_non, truD_int, truD_lst, truD_tup, attD, recOf, putFD, ap_gNilD, ap_gTupD, ap_gConsD, List.getElem?_cons_zero, List.getElem?_cons_succ, List.getElem?_nil, List.set_cons_zero, List.set_cons_succ, List.map_cons, List.map_nil, List.length_cons, List.length_nil, List.cons_append, List.nil_append, List.append_nil, List.replicate, List.getD_cons_zero, List.getD_cons_succ, List.getD_nil, List.nodup_nil, ite_true, ite_false, Bool.not_true, Bool.not_false, Bool.false_eq_true, reduceCtorEq, Nat.reduceSub, Nat.reduceAdd, List.nodup_cons, List.not_mem_nil, not_false_eq_true, and_self, and_true, true_and, decide_true, decide_false, List.take_succ_cons, List.take_zero, sizeLine_eq, Nat.zero_le, Nat.reduceLeDiff, Nat.reduceLT, Nat.reduceEqDiff, Bool.true_and, Bool.false_and, Bool.and_true, Bool.and_false, Bool.true_or, Bool.false_or, Bool.or_true, Bool.or_false, cp_bind, cp_pure, cp_bindS, cp_seqS, cp_nmO, cp_cO, cp_frzD, cp_frzO, cp_valO, cp_valD, cp_binX, cp_unX, cp_caX, cp_nilA, cp_consA, cp_nilD, cp_consD, cp_free_eq, cp_setS, cp_retS, cp_exprS, cp_ifS, cp_nxS, cp_retN, cp_mvX, cp_frD, cp_frO, cp_truO, cp_tstB, cp_andT, cp_orT, cp_notT, cp_notX, cp_andO, cp_orO, cp_ifE, cp_chX, cp_noO, cp_ptO, cp_slX, cp_tupX, cp_lstX, cp_dic0X, cp_itX, cp_enX, cp_rg1, cp_gN, cp_asgS, cp_forS, cp_loopS_cons, cp_callX, cp_appF, cp_mkX, cp_fldS, cp_attX, cp_raiseS1, cp_raiseS0, cp_tryS, cp_muX, cp_muN, cp_mtX, cp_hasOw_eq, cp_gSubD, cp_parS, cp_kwX, cp_yesT, cp_compX, cp_compL_cons, ↓g, ↓f1, eq2_int, decide_eq_false c2, decide_eq_true c3, slT, ptS, addD_int, t1]
                · show wtDs (_ ++ _) ≤ _
                  rw [wt_app]
                  omega
                · have := dp_le (dp_in (n := n) (fun d hd => dp d (y6 d hd)) fun d hd => dp d (y8 d hd))
                  show dpDs (_ ++ _) + 1 ≤ _
                  omega
              · obtain ⟨y, hy, ey⟩ := ixD_tup (xs := ds) (i := at') a2 b2
                obtain ⟨q4, d', e4, f, s1, s2, s3⟩ := ih k n true q3 y (by omega) (h2 y hy)
                have sb : subD (.int ((k + 1 : Nat) : Int)) (.int 1) = some (.fz (.int (k : Nat))) := by
                  show some (Sl.fz (.int (((k + 1 : Nat) : Int) - 1))) = _
                  congr 3
                  omega
                have t1 := add_tup (xs := L2.WD.cutD ds none (some at')) (ys := [d']) (by show _ + 1 ≤ 1000; omega)
                have t2 := add_tup (xs := L2.WD.cutD ds none (some at') ++ [d']) (ys := L2.WD.cutD ds (some (at' + 1)) none) (by rw [List.length_append]; show _ + 1 + _ ≤ 1000; omega)
                refine ⟨q4, .tup (L2.WD.cutD ds none (some at') ++ [d'] ++ L2.WD.cutD ds (some (at' + 1)) none), ?_, f, sd_tup (by rw [List.length_append, List.length_append]; show _ + 1 + _ ≤ 1000; omega) (sd_in (sd_in (fun d hd => sd _ d (y2 d hd)) fun d hd => ?_) fun d hd => sd _ d (y4 d hd)), ?_, ?_⟩
                · show bodyF 5 (g65 (F65 N)) _ = _
                  unfold g65
                  simp only [bR_ok, bR_exc, bR_bad, kR_ok, bS_ok, bS_exc, bS_bad, nS_nx, nS_rt, nS_exc, nS_bk, nS_ct, nS_bad, gS_nx, lS_nx, lS_ct, lS_bk, lS_rt, lS_exc, fS_rt, fS_nx, fS_exc, hS_nx, hS_rt, hS_exc, pR_ok, pR_exc, oR_some, oR_none, cR_true, cR_false, xS_ok, con_vl, con_sl, conS_nil, conS_cons, loopS_nil, compL_nil, handle_nil, handle_cons, ap_bodyF, takeR_ok, takeR_exc, nmS, coS, vaS, vaA, vdS, vdA, mvS, frS, tsS, blO, ptS, muS, owB, gbS, gbD, flS, tkS, goneS, frz_fz, frz_ow, frz_oo, mine_no, mine_fz, mine_ow, mine_oo, owned_no, owned_fz, owned_ow, owned_oo, flag_no, flag_fz, flag_ow, flag_oo, give, back, argS, ownIx, wb, one, two, intS, blS, itemsD_lst, itemsD_tup, itemsD_scr, itemsD_str, enumD_lst, enumD_tup, numD_nil, numD_cons, truD_bl, truD_non, truD_int, truD_lst, truD_tup, attD, recOf, putFD, ap_gNilD, ap_gTupD, ap_gConsD, List.getElem?_cons_zero, List.getElem?_cons_succ, List.getElem?_nil, List.set_cons_zero, List.set_cons_succ, List.map_cons, List.map_nil, List.length_cons, List.length_nil, List.cons_append, List.nil_append, List.append_nil, List.replicate, List.getD_cons_zero, List.getD_cons_succ, List.getD_nil, List.nodup_nil, ite_true, ite_false, Bool.not_true, Bool.not_false, Bool.false_eq_true, reduceCtorEq, Nat.reduceSub, Nat.reduceAdd, List.nodup_cons, List.not_mem_nil, not_false_eq_true, and_self, and_true, true_and, decide_true, decide_false, List.take_succ_cons, List.take_zero, sizeLine_eq, Nat.zero_le, Nat.reduceLeDiff, Nat.reduceLT, Nat.reduceEqDiff, Bool.true_and, Bool.false_and, Bool.and_true, Bool.and_false, Bool.true_or, Bool.false_or, Bool.or_true, Bool.or_false, cp_bind, cp_pure, cp_bindS, cp_seqS, cp_nmO, cp_cO, cp_frzD, cp_frzO, cp_valO, cp_valD, cp_binX, cp_unX, cp_caX, cp_nilA, cp_consA, cp_nilD, cp_consD, cp_free_eq, cp_setS, cp_retS, cp_exprS, cp_ifS, cp_nxS, cp_retN, cp_mvX, cp_frD, cp_frO, cp_truO, cp_tstB, cp_andT, cp_orT, cp_notT, cp_notX, cp_andO, cp_orO, cp_ifE, cp_chX, cp_noO, cp_ptO, cp_slX, cp_tupX, cp_lstX, cp_dic0X, cp_itX, cp_enX, cp_rg1, cp_gN, cp_asgS, cp_forS, cp_loopS_cons, cp_callX, cp_appF, cp_mkX, cp_fldS, cp_attX, cp_raiseS1, cp_raiseS0, cp_tryS, cp_muX, cp_muN, cp_mtX, cp_hasOw_eq, cp_gSubD, cp_parS, cp_kwX, cp_yesT, cp_compX, cp_compL_cons, ↓g, ↓f1, eq2_int, decide_eq_false c2, decide_eq_false c3, slT, ptS, addD_int, ey, sb, e4, t1, t2]
                · simp only [List.mem_cons, List.not_mem_nil, or_false] at hd
                  rw [hd]; exact s1
                · show wtDs (_ ++ _ ++ _) ≤ _
                  rw [wt_app, wt_app]
                  have := (WW_mono n).2
                  show _ + (wtD d' + 1 + 0) + _ ≤ _
                  omega
                · have := dp_le (n := n + 3) (dp_in (dp_in (fun d hd => Nat.le_trans (dp d (y2 d hd)) (by omega)) (ys := [d']) fun d hd => by
                    simp only [List.mem_cons, List.not_mem_nil, or_false] at hd
                    rw [hd]; exact s3) fun d hd => Nat.le_trans (dp d (y4 d hd)) (by omega))
                  show dpDs (_ ++ _ ++ _) + 1 ≤ _
                  omega
/-! ### the law -/
theorem callP_ow {F : Mo Sl} {more : List D} {fx : Mo Sl} {fa : Mo (List Ar)} {ρ ρ1 ρ2 : List Sl} {xs : List D} {as : List Ar} (hf : fx ρ = .ok ρ1 (.ow false xs)) (ha : fa ρ1 = .ok ρ2 as) : callP F more fx fa ρ = popR ρ2.length (appF F more (.sl ρ2.length :: as) (ρ2 ++ [.ow false xs])) := by
  unfold callP headX
  rw [ap_bind, ap_bind, hf, bR_ok, ap_bind, ha, bR_ok, bR_ok]
theorem popR_ok {n : Nat} {ρ : List Sl} {s : Sl} : popR n (.ok ρ s) = .ok (ρ.take n) s := rfl
def lSl (ns : List Int) (k : Int) (s2 s3 s5 s6 s7 : Sl) : List Sl := [.fz (.scr ns), .fz (.int k), s2, s3, .no, s5, s6, s7, .no, .no, .no]
theorem p9 (ρ : List Sl) : frzO (binX powD (cO (.int 10)) (cO (.int 9))) ρ = .ok ρ (.vl (.int 1000000000)) := by kernel_rfl
theorem p12 (ρ : List Sl) : frzO (binX powD (cO (.int 10)) (cO (.int 12))) ρ = .ok ρ (.vl (.int 1000000000000)) := by kernel_rfl
theorem goodR {n : Nat} {d : D} (hn : n ≤ 3) (h : OD n d) : F67 [.fz d] = .ok [.fz d] (.fz (.bl true)) := by
  obtain ⟨f, h1, h2, h3⟩ := h
  have : WW n ≤ 3486 := by
    have : n = 0 ∨ n = 1 ∨ n = 2 ∨ n = 3 := by omega
    rcases this with rfl | rfl | rfl | rfl <;> decide
  exact rightE h1 (by omega) (by omega)
def inB : So := (seqS (setS 7 (binX addD (frzO (binX modD (frzO (binX repD (nmO 6) (cO (.int 48271)))) (cO (.int 999999999989)))) (frzO (binX repD (frzO (binX powD (cO (.int 10)) (cO (.int 12)))) (frzO (binX addD (frzO (binX modD (frzO (binX repD (nmO 6) (cO (.int 69621)))) (cO (.int 999999999961)))) (cO (.int 1)))))))) (ifS (notT (truO (frzO (callX F67 [] (consA (frzO (callP (F65 8) [] (lstX (consD (frD 7) nilD)) (consA (nmO 5) (consA (cO (.int 4)) nilA)))) nilA))))) (retS (valO (cO (.bl false)))) nxS))
def lawB : So := (seqS (setS 2 (callX F58 [] (consA (nmO 0) (consA (nmO 1) nilA)))) (seqS (setS 3 (compX [4] (rg1 (cO (.int 6))) (gN 4) yesT (frzD (callX F59 [] (consA (nmO 2) (consA (frzO (binX powD (cO (.int 10)) (cO (.int 9)))) nilA)))))) (seqS (setS 5 (callX F61 [] (consA (nmO 2) nilA))) (seqS (ifS (notT (truO (frzO (callX F67 [] (consA (nmO 5) nilA))))) (retS (valO (cO (.bl false)))) nxS) (forS (itX (frD 3)) (gN 6) (seqS (setS 7 (binX addD (frzO (binX modD (frzO (binX repD (nmO 6) (cO (.int 48271)))) (cO (.int 999999999989)))) (frzO (binX repD (frzO (binX powD (cO (.int 10)) (cO (.int 12)))) (frzO (binX addD (frzO (binX modD (frzO (binX repD (nmO 6) (cO (.int 69621)))) (cO (.int 999999999961)))) (cO (.int 1)))))))) (ifS (notT (truO (frzO (callX F67 [] (consA (frzO (callP (F65 8) [] (lstX (consD (frD 7) nilD)) (consA (nmO 5) (consA (cO (.int 4)) nilA)))) nilA))))) (retS (valO (cO (.bl false)))) nxS)))))))
section
variable {ns : List Int} {k : Int}
theorem b2 {s2 s3 s5 s6 s7 : Sl} (hk : 0 ≤ k ∧ k < 90) (h : s2.mine = false) : ∃ q : Int, (setS 2 (callX F58 [] (consA (nmO 0) (consA (nmO 1) nilA)))) (lSl ns k s2 s3 s5 s6 s7) = .nx (lSl ns k (.ow false [.int q]) s3 s5 s6 s7) := by
  obtain ⟨q, e, _⟩ := pool_ok ns k (by omega)
  refine ⟨q, ?_⟩
  unfold lSl
  simp only [bR_ok, bR_exc, bR_bad, kR_ok, bS_ok, bS_exc, bS_bad, nS_nx, nS_rt, nS_exc, nS_bk, nS_ct, nS_bad, gS_nx, lS_nx, lS_ct, lS_bk, lS_rt, lS_exc, fS_rt, fS_nx, fS_exc, hS_nx, hS_rt, hS_exc, pR_ok, pR_exc, oR_some, oR_none, cR_true, cR_false, xS_ok, con_vl, con_sl, conS_nil, conS_cons, loopS_nil, compL_nil, handle_nil, handle_cons, ap_bodyF, takeR_ok, takeR_exc, nmS, coS, vaS, vaA, vdS, vdA, mvS, frS, tsS, blO, ptS, muS, owB, gbS, gbD, flS, tkS, goneS, frz_fz, frz_ow, frz_oo, mine_no, mine_fz, mine_ow, mine_oo, owned_no, owned_fz, owned_ow, owned_oo, flag_no, flag_fz, flag_ow, flag_oo, give, back, argS, ownIx, wb, one, two, intS, blS, itemsD_lst, itemsD_tup, itemsD_scr, itemsD_str, enumD_lst, enumD_tup, numD_nil, numD_cons, truD_bl, truD_non, truD_int, truD_lst, truD_tup, attD, recOf, putFD, ap_gNilD, ap_gTupD, ap_gConsD, List.getElem?_cons_zero, List.getElem?_cons_succ, List.getElem?_nil, List.set_cons_zero, List.set_cons_succ, List.map_cons, List.map_nil, List.length_cons, List.length_nil, List.cons_append, List.nil_append, List.append_nil, List.replicate, List.getD_cons_zero, List.getD_cons_succ, List.getD_nil, List.nodup_nil, ite_true, ite_false, Bool.not_true, Bool.not_false, Bool.false_eq_true, reduceCtorEq, Nat.reduceSub, Nat.reduceAdd, List.nodup_cons, List.not_mem_nil, not_false_eq_true, and_self, and_true, true_and, decide_true, decide_false, List.take_succ_cons, List.take_zero, sizeLine_eq, Nat.zero_le, Nat.reduceLeDiff, Nat.reduceLT, Nat.reduceEqDiff, Bool.true_and, Bool.false_and, Bool.and_true, Bool.and_false, Bool.true_or, Bool.false_or, Bool.or_true, Bool.or_false, cp_bind, cp_pure, cp_bindS, cp_seqS, cp_nmO, cp_cO, cp_frzD, cp_frzO, cp_valO, cp_valD, cp_binX, cp_unX, cp_caX, cp_nilA, cp_consA, cp_nilD, cp_consD, cp_free_eq, cp_setS, cp_retS, cp_exprS, cp_ifS, cp_nxS, cp_retN, cp_mvX, cp_frD, cp_frO, cp_truO, cp_tstB, cp_andT, cp_orT, cp_notT, cp_notX, cp_andO, cp_orO, cp_ifE, cp_chX, cp_noO, cp_ptO, cp_slX, cp_tupX, cp_lstX, cp_dic0X, cp_itX, cp_enX, cp_rg1, cp_gN, cp_asgS, cp_forS, cp_loopS_cons, cp_callX, cp_appF, cp_mkX, cp_fldS, cp_attX, cp_raiseS1, cp_raiseS0, cp_tryS, cp_muX, cp_muN, cp_mtX, cp_hasOw_eq, cp_gSubD, cp_parS, cp_kwX, cp_yesT, cp_compX, cp_compL_cons, e, h]
theorem b3 {q : Int} {s3 s5 s6 s7 : Sl} (h : s3.mine = false) : ∃ (q' : Int) (is : List Int), is.length ≤ 6 ∧ (setS 3 (compX [4] (rg1 (cO (.int 6))) (gN 4) yesT (frzD (callX F59 [] (consA (nmO 2) (consA (frzO (binX powD (cO (.int 10)) (cO (.int 9)))) nilA)))))) (lSl ns k (.ow false [.int q]) s3 s5 s6 s7) = .nx (lSl ns k (.ow false [.int q']) (.ow false (is.map D.int)) s5 s6 s7) := by
  have er : ∀ ρ, rgS ρ (.int 6) = .ok ρ (rngD 0 6) := fun ρ => rgS_nat (ρ := ρ) (n := 6) (by decide)
  obtain ⟨ρ', ys, e, ⟨q', rfl⟩, hyl, hy⟩ := compX_inv (own := [4]) (t := gN 4) (el := frzD (callX F59 [] (consA (nmO 2) (consA (frzO (binX powD (cO (.int 10)) (cO (.int 9)))) nilA)))) (f := rg1 (cO (.int 6))) (ds := rngD 0 6) (ρ := lSl ns k (.ow false [.int q]) s3 s5 s6 s7)
    (fun ρ => ∃ q : Int, ρ = lSl ns k (.ow false [.int q]) s3 s5 s6 s7) (fun d => ∃ i : Int, d = .int i) (by unfold lSl; simp only [bR_ok, bR_exc, bR_bad, kR_ok, bS_ok, bS_exc, bS_bad, nS_nx, nS_rt, nS_exc, nS_bk, nS_ct, nS_bad, gS_nx, lS_nx, lS_ct, lS_bk, lS_rt, lS_exc, fS_rt, fS_nx, fS_exc, hS_nx, hS_rt, hS_exc, pR_ok, pR_exc, oR_some, oR_none, cR_true, cR_false, xS_ok, con_vl, con_sl, conS_nil, conS_cons, loopS_nil, compL_nil, handle_nil, handle_cons, ap_bodyF, takeR_ok, takeR_exc, nmS, coS, vaS, vaA, vdS, vdA, mvS, frS, tsS, blO, ptS, muS, owB, gbS, gbD, flS, tkS, goneS, frz_fz, frz_ow, frz_oo, mine_no, mine_fz, mine_ow, mine_oo, owned_no, owned_fz, owned_ow, owned_oo, flag_no, flag_fz, flag_ow, flag_oo, give, back, argS, ownIx, wb, one, two, intS, blS, itemsD_lst, itemsD_tup, itemsD_scr, itemsD_str, enumD_lst, enumD_tup, numD_nil, numD_cons, truD_bl, truD_non, truD_int, truD_lst, truD_tup, attD, recOf, putFD, ap_gNilD, ap_gTupD, ap_gConsD, List.getElem?_cons_zero, List.getElem?_cons_succ, List.getElem?_nil, List.set_cons_zero, List.set_cons_succ, List.map_cons, List.map_nil, List.length_cons, List.length_nil, List.cons_append, List.nil_append, List.append_nil, List.replicate, List.getD_cons_zero, List.getD_cons_succ, List.getD_nil, List.nodup_nil, ite_true, ite_false, Bool.not_true, Bool.not_false, Bool.false_eq_true, reduceCtorEq, Nat.reduceSub, Nat.reduceAdd, List.nodup_cons, List.not_mem_nil, not_false_eq_true, and_self, and_true, true_and, decide_true, decide_false, List.take_succ_cons, List.take_zero, sizeLine_eq, Nat.zero_le, Nat.reduceLeDiff, Nat.reduceLT, Nat.reduceEqDiff, Bool.true_and, Bool.false_and, Bool.and_true, Bool.and_false, Bool.true_or, Bool.false_or, Bool.or_true, Bool.or_false, cp_bind, cp_pure, cp_bindS, cp_seqS, cp_nmO, cp_cO, cp_frzD, cp_frzO, cp_valO, cp_valD, cp_binX, cp_unX, cp_caX, cp_nilA, cp_consA, cp_nilD, cp_consD, cp_free_eq, cp_setS, cp_retS, cp_exprS, cp_ifS, cp_nxS, cp_retN, cp_mvX, cp_frD, cp_frO, cp_truO, cp_tstB, cp_andT, cp_orT, cp_notT, cp_notX, cp_andO, cp_orO, cp_ifE, cp_chX, cp_noO, cp_ptO, cp_slX, cp_tupX, cp_lstX, cp_dic0X, cp_itX, cp_enX, cp_rg1, cp_gN, cp_asgS, cp_forS, cp_loopS_cons, cp_callX, cp_appF, cp_mkX, cp_fldS, cp_attX, cp_raiseS1, cp_raiseS0, cp_tryS, cp_muX, cp_muN, cp_mtX, cp_hasOw_eq, cp_gSubD, cp_parS, cp_kwX, cp_yesT, cp_compX, cp_compL_cons, er]) (by decide) rfl ⟨q, rfl⟩ (fun i hi ρ h => by
      obtain ⟨q, rfl⟩ := h
      obtain ⟨p1, q1, v, e1, _, v0, v1⟩ := take (m := false) (p := 0) (q := q) trivial (show (0 : Int) < 1000000000 by decide) (by decide)
      refine ⟨[.fz (.scr ns), .fz (.int k), .ow false [.int q], s3, .fz i, s5, s6, s7, .no, .no, .no], [.fz (.scr ns), .fz (.int k), .ow false [.int q1], s3, .fz i, s5, s6, s7, .no, .no, .no], .int v, rfl, ?_, ⟨q1, rfl⟩, v, rfl⟩
      simp only [bR_ok, bR_exc, bR_bad, kR_ok, bS_ok, bS_exc, bS_bad, nS_nx, nS_rt, nS_exc, nS_bk, nS_ct, nS_bad, gS_nx, lS_nx, lS_ct, lS_bk, lS_rt, lS_exc, fS_rt, fS_nx, fS_exc, hS_nx, hS_rt, hS_exc, pR_ok, pR_exc, oR_some, oR_none, cR_true, cR_false, xS_ok, con_vl, con_sl, conS_nil, conS_cons, loopS_nil, compL_nil, handle_nil, handle_cons, ap_bodyF, takeR_ok, takeR_exc, nmS, coS, vaS, vaA, vdS, vdA, mvS, frS, tsS, blO, ptS, muS, owB, gbS, gbD, flS, tkS, goneS, frz_fz, frz_ow, frz_oo, mine_no, mine_fz, mine_ow, mine_oo, owned_no, owned_fz, owned_ow, owned_oo, flag_no, flag_fz, flag_ow, flag_oo, give, back, argS, ownIx, wb, one, two, intS, blS, itemsD_lst, itemsD_tup, itemsD_scr, itemsD_str, enumD_lst, enumD_tup, numD_nil, numD_cons, truD_bl, truD_non, truD_int, truD_lst, truD_tup, attD, recOf, putFD, ap_gNilD, ap_gTupD, ap_gConsD, List.getElem?_cons_zero, List.getElem?_cons_succ, List.getElem?_nil, List.set_cons_zero, List.set_cons_succ, List.map_cons, List.map_nil, List.length_cons, List.length_nil, List.cons_append, List.nil_append, List.append_nil, List.replicate, List.getD_cons_zero, List.getD_cons_succ, List.getD_nil, List.nodup_nil, ite_true, ite_false, Bool.not_true, Bool.not_false, Bool.false_eq_true, reduceCtorEq, Nat.reduceSub, Nat.reduceAdd, List.nodup_cons, List.not_mem_nil, not_false_eq_true, and_self, and_true, true_and, decide_true, decide_false, List.take_succ_cons, List.take_zero, sizeLine_eq, Nat.zero_le, Nat.reduceLeDiff, Nat.reduceLT, Nat.reduceEqDiff, Bool.true_and, Bool.false_and, Bool.and_true, Bool.and_false, Bool.true_or, Bool.false_or, Bool.or_true, Bool.or_false, cp_bind, cp_pure, cp_bindS, cp_seqS, cp_nmO, cp_cO, cp_frzD, cp_frzO, cp_valO, cp_valD, cp_binX, cp_unX, cp_caX, cp_nilA, cp_consA, cp_nilD, cp_consD, cp_free_eq, cp_setS, cp_retS, cp_exprS, cp_ifS, cp_nxS, cp_retN, cp_mvX, cp_frD, cp_frO, cp_truO, cp_tstB, cp_andT, cp_orT, cp_notT, cp_notX, cp_andO, cp_orO, cp_ifE, cp_chX, cp_noO, cp_ptO, cp_slX, cp_tupX, cp_lstX, cp_dic0X, cp_itX, cp_enX, cp_rg1, cp_gN, cp_asgS, cp_forS, cp_loopS_cons, cp_callX, cp_appF, cp_mkX, cp_fldS, cp_attX, cp_raiseS1, cp_raiseS0, cp_tryS, cp_muX, cp_muN, cp_mtX, cp_hasOw_eq, cp_gSubD, cp_parS, cp_kwX, cp_yesT, cp_compX, cp_compL_cons, ↓p9, e1])
  have : ∃ is : List Int, ys = is.map D.int := by
    clear e hyl
    induction ys with
    | nil => exact ⟨[], rfl⟩
    | cons y ys ih =>
      obtain ⟨is, rfl⟩ := ih fun z hz => hy z (by simp [hz])
      obtain ⟨i, rfl⟩ := hy y (by simp)
      exact ⟨i :: is, rfl⟩
  obtain ⟨is, rfl⟩ := this
  rw [List.length_map] at hyl
  have hyl' : is.length = 6 := hyl
  refine ⟨q', is, by omega, ?_⟩
  unfold lSl at *
  simp only [bR_ok, bR_exc, bR_bad, kR_ok, bS_ok, bS_exc, bS_bad, nS_nx, nS_rt, nS_exc, nS_bk, nS_ct, nS_bad, gS_nx, lS_nx, lS_ct, lS_bk, lS_rt, lS_exc, fS_rt, fS_nx, fS_exc, hS_nx, hS_rt, hS_exc, pR_ok, pR_exc, oR_some, oR_none, cR_true, cR_false, xS_ok, con_vl, con_sl, conS_nil, conS_cons, loopS_nil, compL_nil, handle_nil, handle_cons, ap_bodyF, takeR_ok, takeR_exc, nmS, coS, vaS, vaA, vdS, vdA, mvS, frS, tsS, blO, ptS, muS, owB, gbS, gbD, flS, tkS, goneS, frz_fz, frz_ow, frz_oo, mine_no, mine_fz, mine_ow, mine_oo, owned_no, owned_fz, owned_ow, owned_oo, flag_no, flag_fz, flag_ow, flag_oo, give, back, argS, ownIx, wb, one, two, intS, blS, itemsD_lst, itemsD_tup, itemsD_scr, itemsD_str, enumD_lst, enumD_tup, numD_nil, numD_cons, truD_bl, truD_non, truD_int, truD_lst, truD_tup, attD, recOf, putFD, ap_gNilD, ap_gTupD, ap_gConsD, List.getElem?_cons_zero, List.getElem?_cons_succ, List.getElem?_nil, List.set_cons_zero, List.set_cons_succ, List.map_cons, List.map_nil, List.length_cons, List.length_nil, List.cons_append, List.nil_append, List.append_nil, List.replicate, List.getD_cons_zero, List.getD_cons_succ, List.getD_nil, List.nodup_nil, ite_true, ite_false, Bool.not_true, Bool.not_false, Bool.false_eq_true, reduceCtorEq, Nat.reduceSub, Nat.reduceAdd, List.nodup_cons, List.not_mem_nil, not_false_eq_true, and_self, and_true, true_and, decide_true, decide_false, List.take_succ_cons, List.take_zero, sizeLine_eq, Nat.zero_le, Nat.reduceLeDiff, Nat.reduceLT, Nat.reduceEqDiff, Bool.true_and, Bool.false_and, Bool.and_true, Bool.and_false, Bool.true_or, Bool.false_or, Bool.or_true, Bool.or_false, cp_bind, cp_pure, cp_bindS, cp_seqS, cp_nmO, cp_cO, cp_frzD, cp_frzO, cp_valO, cp_valD, cp_binX, cp_unX, cp_caX, cp_nilA, cp_consA, cp_nilD, cp_consD, cp_free_eq, cp_setS, cp_retS, cp_exprS, cp_ifS, cp_nxS, cp_retN, cp_mvX, cp_frD, cp_frO, cp_truO, cp_tstB, cp_andT, cp_orT, cp_notT, cp_notX, cp_andO, cp_orO, cp_ifE, cp_chX, cp_noO, cp_ptO, cp_slX, cp_tupX, cp_lstX, cp_dic0X, cp_itX, cp_enX, cp_rg1, cp_gN, cp_asgS, cp_forS, cp_loopS_cons, cp_callX, cp_appF, cp_mkX, cp_fldS, cp_attX, cp_raiseS1, cp_raiseS0, cp_tryS, cp_muX, cp_muN, cp_mtX, cp_hasOw_eq, cp_gSubD, cp_parS, cp_kwX, cp_yesT, cp_compX, cp_compL_cons, ↓e, h]
theorem b5 {q : Int} {s3 s5 s6 s7 : Sl} (h : s5.mine = false) : ∃ (q' : Int) (d : D), WH d ∧ (setS 5 (callX F61 [] (consA (nmO 2) nilA))) (lSl ns k (.ow false [.int q]) s3 s5 s6 s7) = .nx (lSl ns k (.ow false [.int q']) s3 (.fz d) s6 s7) := by
  obtain ⟨q', d, e, hd⟩ := whomE (m := false) (q := q)
  refine ⟨q', d, hd, ?_⟩
  unfold lSl
  simp only [bR_ok, bR_exc, bR_bad, kR_ok, bS_ok, bS_exc, bS_bad, nS_nx, nS_rt, nS_exc, nS_bk, nS_ct, nS_bad, gS_nx, lS_nx, lS_ct, lS_bk, lS_rt, lS_exc, fS_rt, fS_nx, fS_exc, hS_nx, hS_rt, hS_exc, pR_ok, pR_exc, oR_some, oR_none, cR_true, cR_false, xS_ok, con_vl, con_sl, conS_nil, conS_cons, loopS_nil, compL_nil, handle_nil, handle_cons, ap_bodyF, takeR_ok, takeR_exc, nmS, coS, vaS, vaA, vdS, vdA, mvS, frS, tsS, blO, ptS, muS, owB, gbS, gbD, flS, tkS, goneS, frz_fz, frz_ow, frz_oo, mine_no, mine_fz, mine_ow, mine_oo, owned_no, owned_fz, owned_ow, owned_oo, flag_no, flag_fz, flag_ow, flag_oo, give, back, argS, ownIx, wb, one, two, intS, blS, itemsD_lst, itemsD_tup, itemsD_scr, itemsD_str, enumD_lst, enumD_tup, numD_nil, numD_cons, truD_bl, truD_non, truD_int, truD_lst, truD_tup, attD, recOf, putFD, ap_gNilD, ap_gTupD, ap_gConsD, List.getElem?_cons_zero, List.getElem?_cons_succ, List.getElem?_nil, List.set_cons_zero, List.set_cons_succ, List.map_cons, List.map_nil, List.length_cons, List.length_nil, List.cons_append, List.nil_append, List.append_nil, List.replicate, List.getD_cons_zero, List.getD_cons_succ, List.getD_nil, List.nodup_nil, ite_true, ite_false, Bool.not_true, Bool.not_false, Bool.false_eq_true, reduceCtorEq, Nat.reduceSub, Nat.reduceAdd, List.nodup_cons, List.not_mem_nil, not_false_eq_true, and_self, and_true, true_and, decide_true, decide_false, List.take_succ_cons, List.take_zero, sizeLine_eq, Nat.zero_le, Nat.reduceLeDiff, Nat.reduceLT, Nat.reduceEqDiff, Bool.true_and, Bool.false_and, Bool.and_true, Bool.and_false, Bool.true_or, Bool.false_or, Bool.or_true, Bool.or_false, cp_bind, cp_pure, cp_bindS, cp_seqS, cp_nmO, cp_cO, cp_frzD, cp_frzO, cp_valO, cp_valD, cp_binX, cp_unX, cp_caX, cp_nilA, cp_consA, cp_nilD, cp_consD, cp_free_eq, cp_setS, cp_retS, cp_exprS, cp_ifS, cp_nxS, cp_retN, cp_mvX, cp_frD, cp_frO, cp_truO, cp_tstB, cp_andT, cp_orT, cp_notT, cp_notX, cp_andO, cp_orO, cp_ifE, cp_chX, cp_noO, cp_ptO, cp_slX, cp_tupX, cp_lstX, cp_dic0X, cp_itX, cp_enX, cp_rg1, cp_gN, cp_asgS, cp_forS, cp_loopS_cons, cp_callX, cp_appF, cp_mkX, cp_fldS, cp_attX, cp_raiseS1, cp_raiseS0, cp_tryS, cp_muX, cp_muN, cp_mtX, cp_hasOw_eq, cp_gSubD, cp_parS, cp_kwX, cp_yesT, cp_compX, cp_compL_cons, e, h]
theorem b6 {s2 s3 s6 s7 : Sl} {d : D} (hd : WH d) : (ifS (notT (truO (frzO (callX F67 [] (consA (nmO 5) nilA))))) (retS (valO (cO (.bl false)))) nxS) (lSl ns k s2 s3 (.fz d) s6 s7) = .nx (lSl ns k s2 s3 (.fz d) s6 s7) := by
  have e := rightE (f := false) hd.pz.sd (by have := hd.pz.wt; have : WW 3 = 3486 := by decide
                                             omega) (by have := hd.pz.dp; omega)
  unfold lSl
  simp only [bR_ok, bR_exc, bR_bad, kR_ok, bS_ok, bS_exc, bS_bad, nS_nx, nS_rt, nS_exc, nS_bk, nS_ct, nS_bad, gS_nx, lS_nx, lS_ct, lS_bk, lS_rt, lS_exc, fS_rt, fS_nx, fS_exc, hS_nx, hS_rt, hS_exc, pR_ok, pR_exc, oR_some, oR_none, cR_true, cR_false, xS_ok, con_vl, con_sl, conS_nil, conS_cons, loopS_nil, compL_nil, handle_nil, handle_cons, ap_bodyF, takeR_ok, takeR_exc, nmS, coS, vaS, vaA, vdS, vdA, mvS, frS, tsS, blO, ptS, muS, owB, gbS, gbD, flS, tkS, goneS, frz_fz, frz_ow, frz_oo, mine_no, mine_fz, mine_ow, mine_oo, owned_no, owned_fz, owned_ow, owned_oo, flag_no, flag_fz, flag_ow, flag_oo, give, back, argS, ownIx, wb, one, two, intS, blS, itemsD_lst, itemsD_tup, itemsD_scr, itemsD_str, enumD_lst, enumD_tup, numD_nil, numD_cons, truD_bl, truD_non, truD_int, truD_lst, truD_tup, attD, recOf, putFD, ap_gNilD, ap_gTupD, ap_gConsD, List.getElem?_cons_zero, List.getElem?_cons_succ, List.getElem?_nil, List.set_cons_zero, List.set_cons_succ, List.map_cons, List.map_nil, List.length_cons, List.length_nil, List.cons_append, List.nil_append, List.append_nil, List.replicate, List.getD_cons_zero, List.getD_cons_succ, List.getD_nil, List.nodup_nil, ite_true, ite_false, Bool.not_true, Bool.not_false, Bool.false_eq_true, reduceCtorEq, Nat.reduceSub, Nat.reduceAdd, List.nodup_cons, List.not_mem_nil, not_false_eq_true, and_self, and_true, true_and, decide_true, decide_false, List.take_succ_cons, List.take_zero, sizeLine_eq, Nat.zero_le, Nat.reduceLeDiff, Nat.reduceLT, Nat.reduceEqDiff, Bool.true_and, Bool.false_and, Bool.and_true, Bool.and_false, Bool.true_or, Bool.false_or, Bool.or_true, Bool.or_false, cp_bind, cp_pure, cp_bindS, cp_seqS, cp_nmO, cp_cO, cp_frzD, cp_frzO, cp_valO, cp_valD, cp_binX, cp_unX, cp_caX, cp_nilA, cp_consA, cp_nilD, cp_consD, cp_free_eq, cp_setS, cp_retS, cp_exprS, cp_ifS, cp_nxS, cp_retN, cp_mvX, cp_frD, cp_frO, cp_truO, cp_tstB, cp_andT, cp_orT, cp_notT, cp_notX, cp_andO, cp_orO, cp_ifE, cp_chX, cp_noO, cp_ptO, cp_slX, cp_tupX, cp_lstX, cp_dic0X, cp_itX, cp_enX, cp_rg1, cp_gN, cp_asgS, cp_forS, cp_loopS_cons, cp_callX, cp_appF, cp_mkX, cp_fldS, cp_attX, cp_raiseS1, cp_raiseS0, cp_tryS, cp_muX, cp_muN, cp_mtX, cp_hasOw_eq, cp_gSubD, cp_parS, cp_kwX, cp_yesT, cp_compX, cp_compL_cons, e]
theorem bIn {s2 s3 s7 : Sl} {d : D} {i : Int} (hd : WH d) (h7 : s7.mine = false) : ∃ v : Int, inB (lSl ns k s2 s3 (.fz d) (.fz (.int i)) s7) = .nx (lSl ns k s2 s3 (.fz d) (.fz (.int i)) (.fz (.int v))) := by
  obtain ⟨v, hv⟩ : ∃ v, v = i * 48271 % 999999999989 + 1000000000000 * (i * 69621 % 999999999961 + 1) := ⟨_, rfl⟩
  obtain ⟨q', d', e, hd'⟩ := bentE 8 4 3 false v d (by decide) hd.pz
  have e : F65 8 [.ow false [.int v], .fz d, .fz (.int 4)] = .ok [.ow false [.int q'], .fz d, .fz (.int 4)] (.fz d') := e
  have er := goodR (by decide) hd'
  refine ⟨v, ?_⟩
  have c := callP_ow (F := F65 8) (more := []) (fx := lstX (consD (frD 7) nilD)) (fa := consA (nmO 5) (consA (cO (.int 4)) nilA)) (ρ := lSl ns k s2 s3 (.fz d) (.fz (.int i)) (.fz (.int v))) (ρ1 := lSl ns k s2 s3 (.fz d) (.fz (.int i)) (.fz (.int v))) (ρ2 := lSl ns k s2 s3 (.fz d) (.fz (.int i)) (.fz (.int v))) (xs := [.int v]) (as := [.sl 5, .vl (.int 4)]) (by unfold lSl; simp only [bR_ok, bR_exc, bR_bad, kR_ok, bS_ok, bS_exc, bS_bad, nS_nx, nS_rt, nS_exc, nS_bk, nS_ct, nS_bad, gS_nx, lS_nx, lS_ct, lS_bk, lS_rt, lS_exc, fS_rt, fS_nx, fS_exc, hS_nx, hS_rt, hS_exc, pR_ok, pR_exc, oR_some, oR_none, cR_true, cR_false, xS_ok, con_vl, con_sl, conS_nil, conS_cons, loopS_nil, compL_nil, handle_nil, handle_cons, ap_bodyF, takeR_ok, takeR_exc, nmS, coS, vaS, vaA, vdS, vdA, mvS, frS, tsS, blO, ptS, muS, owB, gbS, gbD, flS, tkS, goneS, frz_fz, frz_ow, frz_oo, mine_no, mine_fz, mine_ow, mine_oo, owned_no, owned_fz, owned_ow, owned_oo, flag_no, flag_fz, flag_ow, flag_oo, give, back, argS, ownIx, wb, one, two, intS, blS, itemsD_lst, itemsD_tup, itemsD_scr, itemsD_str, enumD_lst, enumD_tup, numD_nil, numD_cons, truD_bl, truD_non, truD_int, truD_lst, truD_tup, attD, recOf, putFD, ap_gNilD, ap_gTupD, ap_gConsD, List.getElem?_cons_zero, List.getElem?_cons_succ, List.getElem?_nil, List.set_cons_zero, List.set_cons_succ, List.map_cons, List.map_nil, List.length_cons, List.length_nil, List.cons_append, List.nil_append, List.append_nil, List.replicate, List.getD_cons_zero, List.getD_cons_succ, List.getD_nil, List.nodup_nil, ite_true, ite_false, Bool.not_true, Bool.not_false, Bool.false_eq_true, reduceCtorEq, Nat.reduceSub, Nat.reduceAdd, List.nodup_cons, List.not_mem_nil, not_false_eq_true, and_self, and_true, true_and, decide_true, decide_false, List.take_succ_cons, List.take_zero, sizeLine_eq, Nat.zero_le, Nat.reduceLeDiff, Nat.reduceLT, Nat.reduceEqDiff, Bool.true_and, Bool.false_and, Bool.and_true, Bool.and_false, Bool.true_or, Bool.false_or, Bool.or_true, Bool.or_false, cp_bind, cp_pure, cp_bindS, cp_seqS, cp_nmO, cp_cO, cp_frzD, cp_frzO, cp_valO, cp_valD, cp_binX, cp_unX, cp_caX, cp_nilA, cp_consA, cp_nilD, cp_consD, cp_free_eq, cp_setS, cp_retS, cp_exprS, cp_ifS, cp_nxS, cp_retN, cp_mvX, cp_frD, cp_frO, cp_truO, cp_tstB, cp_andT, cp_orT, cp_notT, cp_notX, cp_andO, cp_orO, cp_ifE, cp_chX, cp_noO, cp_ptO, cp_slX, cp_tupX, cp_lstX, cp_dic0X, cp_itX, cp_enX, cp_rg1, cp_gN, cp_asgS, cp_forS, cp_loopS_cons, cp_callX, cp_appF, cp_mkX, cp_fldS, cp_attX, cp_raiseS1, cp_raiseS0, cp_tryS, cp_muX, cp_muN, cp_mtX, cp_hasOw_eq, cp_gSubD, cp_parS, cp_kwX, cp_yesT, cp_compX, cp_compL_cons]) (by unfold lSl; simp only [bR_ok, bR_exc, bR_bad, kR_ok, bS_ok, bS_exc, bS_bad, nS_nx, nS_rt, nS_exc, nS_bk, nS_ct, nS_bad, gS_nx, lS_nx, lS_ct, lS_bk, lS_rt, lS_exc, fS_rt, fS_nx, fS_exc, hS_nx, hS_rt, hS_exc, pR_ok, pR_exc, oR_some, oR_none, cR_true, cR_false, xS_ok, con_vl, con_sl, conS_nil, conS_cons, loopS_nil, compL_nil, handle_nil, handle_cons, ap_bodyF, takeR_ok, takeR_exc, nmS, coS, vaS, vaA, vdS, vdA, mvS, frS, tsS, blO, ptS, muS, owB, gbS, gbD, flS, tkS, goneS, frz_fz, frz_ow, frz_oo, mine_no, mine_fz, mine_ow, mine_oo, owned_no, owned_fz, owned_ow, owned_oo, flag_no, flag_fz, flag_ow, flag_oo, give, back, argS, ownIx, wb, one, two, intS, blS, itemsD_lst, itemsD_tup, itemsD_scr, itemsD_str, enumD_lst, enumD_tup, numD_nil, numD_cons, truD_bl, truD_non, truD_int, truD_lst, truD_tup, attD, recOf, putFD, ap_gNilD, ap_gTupD, ap_gConsD, List.getElem?_cons_zero, List.getElem?_cons_succ, List.getElem?_nil, List.set_cons_zero, List.set_cons_succ, List.map_cons, List.map_nil, List.length_cons, List.length_nil, List.cons_append, List.nil_append, List.append_nil, List.replicate, List.getD_cons_zero, List.getD_cons_succ, List.getD_nil, List.nodup_nil, ite_true, ite_false, Bool.not_true, Bool.not_false, Bool.false_eq_true, reduceCtorEq, Nat.reduceSub, Nat.reduceAdd, List.nodup_cons, List.not_mem_nil, not_false_eq_true, and_self, and_true, true_and, decide_true, decide_false, List.take_succ_cons, List.take_zero, sizeLine_eq, Nat.zero_le, Nat.reduceLeDiff, Nat.reduceLT, Nat.reduceEqDiff, Bool.true_and, Bool.false_and, Bool.and_true, Bool.and_false, Bool.true_or, Bool.false_or, Bool.or_true, Bool.or_false, cp_bind, cp_pure, cp_bindS, cp_seqS, cp_nmO, cp_cO, cp_frzD, cp_frzO, cp_valO, cp_valD, cp_binX, cp_unX, cp_caX, cp_nilA, cp_consA, cp_nilD, cp_consD, cp_free_eq, cp_setS, cp_retS, cp_exprS, cp_ifS, cp_nxS, cp_retN, cp_mvX, cp_frD, cp_frO, cp_truO, cp_tstB, cp_andT, cp_orT, cp_notT, cp_notX, cp_andO, cp_orO, cp_ifE, cp_chX, cp_noO, cp_ptO, cp_slX, cp_tupX, cp_lstX, cp_dic0X, cp_itX, cp_enX, cp_rg1, cp_gN, cp_asgS, cp_forS, cp_loopS_cons, cp_callX, cp_appF, cp_mkX, cp_fldS, cp_attX, cp_raiseS1, cp_raiseS0, cp_tryS, cp_muX, cp_muN, cp_mtX, cp_hasOw_eq, cp_gSubD, cp_parS, cp_kwX, cp_yesT, cp_compX, cp_compL_cons])
  unfold inB
  unfold lSl at *
  simp only [bR_ok, bR_exc, bR_bad, kR_ok, bS_ok, bS_exc, bS_bad, nS_nx, nS_rt, nS_exc, nS_bk, nS_ct, nS_bad, gS_nx, lS_nx, lS_ct, lS_bk, lS_rt, lS_exc, fS_rt, fS_nx, fS_exc, hS_nx, hS_rt, hS_exc, pR_ok, pR_exc, oR_some, oR_none, cR_true, cR_false, xS_ok, con_vl, con_sl, conS_nil, conS_cons, loopS_nil, compL_nil, handle_nil, handle_cons, ap_bodyF, takeR_ok, takeR_exc, nmS, coS, vaS, vaA, vdS, vdA, mvS, frS, tsS, blO, ptS, muS, owB, gbS, gbD, flS, tkS, goneS, frz_fz, frz_ow, frz_oo, mine_no, mine_fz, mine_ow, mine_oo, owned_no, owned_fz, owned_ow, owned_oo, flag_no, flag_fz, flag_ow, flag_oo, give, back, argS, ownIx, wb, one, two, intS, blS, itemsD_lst, itemsD_tup, itemsD_scr, itemsD_str, enumD_lst, enumD_tup, numD_nil, numD_cons, truD_bl, truD_non, truD_int, truD_lst, truD_tup, attD, recOf, putFD, ap_gNilD, ap_gTupD, ap_gConsD, List.getElem?_cons_zero, List.getElem?_cons_succ, List.getElem?_nil, List.set_cons_zero, List.set_cons_succ, List.map_cons, List.map_nil, List.length_cons, List.length_nil, List.cons_append, List.nil_append, List.append_nil, List.replicate, List.getD_cons_zero, List.getD_cons_succ, List.getD_nil, List.nodup_nil, ite_true, ite_false, Bool.not_true, Bool.not_false, Bool.false_eq_true, reduceCtorEq, Nat.reduceSub, Nat.reduceAdd, List.nodup_cons, List.not_mem_nil, not_false_eq_true, and_self, and_true, true_and, decide_true, decide_false, List.take_succ_cons, List.take_zero, sizeLine_eq, Nat.zero_le, Nat.reduceLeDiff, Nat.reduceLT, Nat.reduceEqDiff, Bool.true_and, Bool.false_and, Bool.and_true, Bool.and_false, Bool.true_or, Bool.false_or, Bool.or_true, Bool.or_false, cp_bind, cp_pure, cp_bindS, cp_seqS, cp_nmO, cp_cO, cp_frzD, cp_frzO, cp_valO, cp_valD, cp_binX, cp_unX, cp_caX, cp_nilA, cp_consA, cp_nilD, cp_consD, cp_free_eq, cp_setS, cp_retS, cp_exprS, cp_ifS, cp_nxS, cp_retN, cp_mvX, cp_frD, cp_frO, cp_truO, cp_tstB, cp_andT, cp_orT, cp_notT, cp_notX, cp_andO, cp_orO, cp_ifE, cp_chX, cp_noO, cp_ptO, cp_slX, cp_tupX, cp_lstX, cp_dic0X, cp_itX, cp_enX, cp_rg1, cp_gN, cp_asgS, cp_forS, cp_loopS_cons, cp_callX, cp_appF, cp_mkX, cp_fldS, cp_attX, cp_raiseS1, cp_raiseS0, cp_tryS, cp_muX, cp_muN, cp_mtX, cp_hasOw_eq, cp_gSubD, cp_parS, cp_kwX, cp_yesT, cp_compX, cp_compL_cons, mulR (show (48271 : Int).natAbs < 2 ^ 64 by decide), mulR (show (69621 : Int).natAbs < 2 ^ 64 by decide), modD_ok (show (0 : Int) < 999999999989 by decide), modD_ok (show (0 : Int) < 999999999961 by decide), ↓p12, mulL (show (1000000000000 : Int).natAbs < 2 ^ 64 by decide), addD_int, ← hv, h7, ↓c, e, popR_ok, er]
end
def thS : List D := [.non, .int 0, .bl true, .str "", .str "ann", .tup [.str "one", .str "ann"], .tup [.tup [.str "one", .str "ann"]], .lst [.tup [.tup [.str "one", .str "ann"]]], .dic [], .tup [], .tup [.tup []], .tup [.tup [.tup []]]]
def oneS : D := .tup [.tup [.str "one", .str "ann"]]
def oneP : D := .tup [.str "one", .str "ann"]
def thT : List D := [.tup [oneS], .tup [.tup (List.replicate 6 oneP), .tup (List.replicate 6 oneP), .tup (List.replicate 6 oneP), .tup (List.replicate 6 oneP)], .tup [.tup (List.replicate 7 oneP)], .tup [oneS, oneS, oneS, oneS, oneS]]
def okB (d : D) : Bool := (sdD true d || sdD false d) && (decide (wtD d ≤ 1000000) && decide (dpD d ≤ 60))
theorem okB_right {d : D} (h : okB d = true) : F67 [.fz d] = .ok [.fz d] (.fz (.bl true)) := by
  unfold okB at h
  simp only [Bool.and_eq_true, Bool.or_eq_true, decide_eq_true_eq] at h
  obtain ⟨h1, h2, h3⟩ := h
  rcases h1 with h1 | h1
  · exact rightE h1 h2 h3
  · exact rightE h1 h2 h3
theorem allT : (thS ++ thT).all okB = true := by kernel_rfl
section
variable {ns : List Int} {a b c d e f : Sl}
def fSl (ns : List Int) (a b c d e f s8 s9 : Sl) : List Sl := [.fz (.scr ns), a, b, c, .no, d, e, f, s8, s9, .no]
theorem f1 : (setS 8 (lstX (consD (valD (cO .non)) (consD (valD (cO (.int 0))) (consD (valD (cO (.bl true))) (consD (valD (cO (.str ""))) (consD (valD (cO (.str "ann"))) (consD (frzD (tupX (consD (valD (cO (.str "one"))) (consD (valD (cO (.str "ann"))) nilD)))) (consD (frzD (tupX (consD (frzD (tupX (consD (valD (cO (.str "one"))) (consD (valD (cO (.str "ann"))) nilD)))) nilD))) (consD (frzD (lstX (consD (frzD (tupX (consD (frzD (tupX (consD (valD (cO (.str "one"))) (consD (valD (cO (.str "ann"))) nilD)))) nilD))) nilD))) (consD (frzD dic0X) (consD (frzD (tupX nilD)) (consD (frzD (tupX (consD (frzD (tupX nilD)) nilD))) (consD (frzD (tupX (consD (frzD (tupX (consD (frzD (tupX nilD)) nilD))) nilD))) nilD)))))))))))))) (fSl ns a b c d e f .no .no) = .nx (fSl ns a b c d e f (.ow false thS) .no) := by kernel_rfl
theorem f2 {s8 : Sl} : (setS 9 (tupX (consD (frzD (tupX (consD (valD (cO (.str "one"))) (consD (valD (cO (.str "ann"))) nilD)))) nilD))) (fSl ns a b c d e f s8 .no) = .nx (fSl ns a b c d e f s8 (.fz oneS)) := by kernel_rfl
theorem f3 : (setS 8 (binX addD (nmO 8) (frzO (lstX (consD (frzD (tupX (consD (frD 9) nilD))) (consD (frzD (binX repD (frzO (tupX (consD (frzD (binX repD (nmO 9) (cO (.int 6)))) nilD))) (cO (.int 4)))) (consD (frzD (tupX (consD (frzD (binX repD (nmO 9) (cO (.int 7)))) nilD))) (consD (frzD (binX repD (frzO (tupX (consD (frD 9) nilD))) (cO (.int 5)))) nilD)))))))) (fSl ns a b c d e f (.ow false thS) (.fz oneS)) = .nx (fSl ns a b c d e f (.ow false (thS ++ thT)) (.fz oneS)) := by kernel_rfl
theorem f4 {L : List D} (hl : L.length ≤ 1000) (h : L.all okB = true) : (retS (caX (one (allD fun bs => bs.all id)) (consA (frzO (compX [10] (itX (frD 8)) (gN 10) yesT (frzD (callX F67 [] (consA (nmO 10) nilA))))) nilA))) (fSl ns a b c d e f (.ow false L) (.fz oneS)) = .rt (fSl ns a b c d e f (.fz (.lst L)) (.fz oneS)) (.fz (.bl true)) := by
  have ec : compX [10] (itX (frD 8)) (gN 10) yesT (frzD (callX F67 [] (consA (nmO 10) nilA))) (fSl ns a b c d e f (.ow false L) (.fz oneS)) = .ok (fSl ns a b c d e f (.fz (.lst L)) (.fz oneS)) (.ow false (L.map fun d => .bl ((fun _ => true) d))) := by
    refine compX_map2 _ (by unfold fSl; simp only [bR_ok, bR_exc, bR_bad, kR_ok, bS_ok, bS_exc, bS_bad, nS_nx, nS_rt, nS_exc, nS_bk, nS_ct, nS_bad, gS_nx, lS_nx, lS_ct, lS_bk, lS_rt, lS_exc, fS_rt, fS_nx, fS_exc, hS_nx, hS_rt, hS_exc, pR_ok, pR_exc, oR_some, oR_none, cR_true, cR_false, xS_ok, con_vl, con_sl, conS_nil, conS_cons, loopS_nil, compL_nil, handle_nil, handle_cons, ap_bodyF, takeR_ok, takeR_exc, nmS, coS, vaS, vaA, vdS, vdA, mvS, frS, tsS, blO, ptS, muS, owB, gbS, gbD, flS, tkS, goneS, frz_fz, frz_ow, frz_oo, mine_no, mine_fz, mine_ow, mine_oo, owned_no, owned_fz, owned_ow, owned_oo, flag_no, flag_fz, flag_ow, flag_oo, give, back, argS, ownIx, wb, one, two, intS, blS, itemsD_lst, itemsD_tup, itemsD_scr, itemsD_str, enumD_lst, enumD_tup, numD_nil, numD_cons, truD_bl, truD_non, truD_int, truD_lst, truD_tup, attD, recOf, putFD, ap_gNilD, ap_gTupD, ap_gConsD, List.getElem?_cons_zero, List.getElem?_cons_succ, List.getElem?_nil, List.set_cons_zero, List.set_cons_succ, List.map_cons, List.map_nil, List.length_cons, List.length_nil, List.cons_append, List.nil_append, List.append_nil, List.replicate, List.getD_cons_zero, List.getD_cons_succ, List.getD_nil, List.nodup_nil, ite_true, ite_false, Bool.not_true, Bool.not_false, Bool.false_eq_true, reduceCtorEq, Nat.reduceSub, Nat.reduceAdd, List.nodup_cons, List.not_mem_nil, not_false_eq_true, and_self, and_true, true_and, decide_true, decide_false, List.take_succ_cons, List.take_zero, sizeLine_eq, Nat.zero_le, Nat.reduceLeDiff, Nat.reduceLT, Nat.reduceEqDiff, Bool.true_and, Bool.false_and, Bool.and_true, Bool.and_false, Bool.true_or, Bool.false_or, Bool.or_true, Bool.or_false, cp_bind, cp_pure, cp_bindS, cp_seqS, cp_nmO, cp_cO, cp_frzD, cp_frzO, cp_valO, cp_valD, cp_binX, cp_unX, cp_caX, cp_nilA, cp_consA, cp_nilD, cp_consD, cp_free_eq, cp_setS, cp_retS, cp_exprS, cp_ifS, cp_nxS, cp_retN, cp_mvX, cp_frD, cp_frO, cp_truO, cp_tstB, cp_andT, cp_orT, cp_notT, cp_notX, cp_andO, cp_orO, cp_ifE, cp_chX, cp_noO, cp_ptO, cp_slX, cp_tupX, cp_lstX, cp_dic0X, cp_itX, cp_enX, cp_rg1, cp_gN, cp_asgS, cp_forS, cp_loopS_cons, cp_callX, cp_appF, cp_mkX, cp_fldS, cp_attX, cp_raiseS1, cp_raiseS0, cp_tryS, cp_muX, cp_muN, cp_mtX, cp_hasOw_eq, cp_gSubD, cp_parS, cp_kwX, cp_yesT, cp_compX, cp_compL_cons]) (Nat.lt_of_le_of_lt hl (by decide)) rfl fun x hx => ?_
    refine ⟨[.fz (.scr ns), a, b, c, .no, d, e, f, .fz (.lst L), .fz oneS, .fz x], [.fz (.scr ns), a, b, c, .no, d, e, f, .fz (.lst L), .fz oneS, .fz x], rfl, ?_, rfl⟩
    simp only [bR_ok, bR_exc, bR_bad, kR_ok, bS_ok, bS_exc, bS_bad, nS_nx, nS_rt, nS_exc, nS_bk, nS_ct, nS_bad, gS_nx, lS_nx, lS_ct, lS_bk, lS_rt, lS_exc, fS_rt, fS_nx, fS_exc, hS_nx, hS_rt, hS_exc, pR_ok, pR_exc, oR_some, oR_none, cR_true, cR_false, xS_ok, con_vl, con_sl, conS_nil, conS_cons, loopS_nil, compL_nil, handle_nil, handle_cons, ap_bodyF, takeR_ok, takeR_exc, nmS, coS, vaS, vaA, vdS, vdA, mvS, frS, tsS, blO, ptS, muS, owB, gbS, gbD, flS, tkS, goneS, frz_fz, frz_ow, frz_oo, mine_no, mine_fz, mine_ow, mine_oo, owned_no, owned_fz, owned_ow, owned_oo, flag_no, flag_fz, flag_ow, flag_oo, give, back, argS, ownIx, wb, one, two, intS, blS, itemsD_lst, itemsD_tup, itemsD_scr, itemsD_str, enumD_lst, enumD_tup, numD_nil, numD_cons, truD_bl, truD_non, truD_int, truD_lst, truD_tup, attD, recOf, putFD, ap_gNilD, ap_gTupD, ap_gConsD, List.getElem?_cons_zero, List.getElem?_cons_succ, List.getElem?_nil, List.set_cons_zero, List.set_cons_succ, List.map_cons, List.map_nil, List.length_cons, List.length_nil, List.cons_append, List.nil_append, List.append_nil, List.replicate, List.getD_cons_zero, List.getD_cons_succ, List.getD_nil, List.nodup_nil, ite_true, ite_false, Bool.not_true, Bool.not_false, Bool.false_eq_true, reduceCtorEq, Nat.reduceSub, Nat.reduceAdd, List.nodup_cons, List.not_mem_nil, not_false_eq_true, and_self, and_true, true_and, decide_true, decide_false, List.take_succ_cons, List.take_zero, sizeLine_eq, Nat.zero_le, Nat.reduceLeDiff, Nat.reduceLT, Nat.reduceEqDiff, Bool.true_and, Bool.false_and, Bool.and_true, Bool.and_false, Bool.true_or, Bool.false_or, Bool.or_true, Bool.or_false, cp_bind, cp_pure, cp_bindS, cp_seqS, cp_nmO, cp_cO, cp_frzD, cp_frzO, cp_valO, cp_valD, cp_binX, cp_unX, cp_caX, cp_nilA, cp_consA, cp_nilD, cp_consD, cp_free_eq, cp_setS, cp_retS, cp_exprS, cp_ifS, cp_nxS, cp_retN, cp_mvX, cp_frD, cp_frO, cp_truO, cp_tstB, cp_andT, cp_orT, cp_notT, cp_notX, cp_andO, cp_orO, cp_ifE, cp_chX, cp_noO, cp_ptO, cp_slX, cp_tupX, cp_lstX, cp_dic0X, cp_itX, cp_enX, cp_rg1, cp_gN, cp_asgS, cp_forS, cp_loopS_cons, cp_callX, cp_appF, cp_mkX, cp_fldS, cp_attX, cp_raiseS1, cp_raiseS0, cp_tryS, cp_muX, cp_muN, cp_mtX, cp_hasOw_eq, cp_gSubD, cp_parS, cp_kwX, cp_yesT, cp_compX, cp_compL_cons, okB_right (List.all_eq_true.mp h x hx)]
  have al := allD_map (f := fun _ => true) L
  have at' : L.all (fun _ => true) = true := by rw [List.all_eq_true]; exact fun _ _ => rfl
  rw [at'] at al
  unfold fSl at *
  simp only [bR_ok, bR_exc, bR_bad, kR_ok, bS_ok, bS_exc, bS_bad, nS_nx, nS_rt, nS_exc, nS_bk, nS_ct, nS_bad, gS_nx, lS_nx, lS_ct, lS_bk, lS_rt, lS_exc, fS_rt, fS_nx, fS_exc, hS_nx, hS_rt, hS_exc, pR_ok, pR_exc, oR_some, oR_none, cR_true, cR_false, xS_ok, con_vl, con_sl, conS_nil, conS_cons, loopS_nil, compL_nil, handle_nil, handle_cons, ap_bodyF, takeR_ok, takeR_exc, nmS, coS, vaS, vaA, vdS, vdA, mvS, frS, tsS, blO, ptS, muS, owB, gbS, gbD, flS, tkS, goneS, frz_fz, frz_ow, frz_oo, mine_no, mine_fz, mine_ow, mine_oo, owned_no, owned_fz, owned_ow, owned_oo, flag_no, flag_fz, flag_ow, flag_oo, give, back, argS, ownIx, wb, one, two, intS, blS, itemsD_lst, itemsD_tup, itemsD_scr, itemsD_str, enumD_lst, enumD_tup, numD_nil, numD_cons, truD_bl, truD_non, truD_int, truD_lst, truD_tup, attD, recOf, putFD, ap_gNilD, ap_gTupD, ap_gConsD, List.getElem?_cons_zero, List.getElem?_cons_succ, List.getElem?_nil, List.set_cons_zero, List.set_cons_succ, List.map_cons, List.map_nil, List.length_cons, List.length_nil, List.cons_append, List.nil_append, List.append_nil, List.replicate, List.getD_cons_zero, List.getD_cons_succ, List.getD_nil, List.nodup_nil, ite_true, ite_false, Bool.not_true, Bool.not_false, Bool.false_eq_true, reduceCtorEq, Nat.reduceSub, Nat.reduceAdd, List.nodup_cons, List.not_mem_nil, not_false_eq_true, and_self, and_true, true_and, decide_true, decide_false, List.take_succ_cons, List.take_zero, sizeLine_eq, Nat.zero_le, Nat.reduceLeDiff, Nat.reduceLT, Nat.reduceEqDiff, Bool.true_and, Bool.false_and, Bool.and_true, Bool.and_false, Bool.true_or, Bool.false_or, Bool.or_true, Bool.or_false, cp_bind, cp_pure, cp_bindS, cp_seqS, cp_nmO, cp_cO, cp_frzD, cp_frzO, cp_valO, cp_valD, cp_binX, cp_unX, cp_caX, cp_nilA, cp_consA, cp_nilD, cp_consD, cp_free_eq, cp_setS, cp_retS, cp_exprS, cp_ifS, cp_nxS, cp_retN, cp_mvX, cp_frD, cp_frO, cp_truO, cp_tstB, cp_andT, cp_orT, cp_notT, cp_notX, cp_andO, cp_orO, cp_ifE, cp_chX, cp_noO, cp_ptO, cp_slX, cp_tupX, cp_lstX, cp_dic0X, cp_itX, cp_enX, cp_rg1, cp_gN, cp_asgS, cp_forS, cp_loopS_cons, cp_callX, cp_appF, cp_mkX, cp_fldS, cp_attX, cp_raiseS1, cp_raiseS0, cp_tryS, cp_muX, cp_muN, cp_mtX, cp_hasOw_eq, cp_gSubD, cp_parS, cp_kwX, cp_yesT, cp_compX, cp_compL_cons, ↓ec, al]
end
section
variable {ns : List Int} {k : Int}
theorem b7 {s2 s3 s6 s7 : Sl} {d : D} {is : List Int} (hd : WH d) (h6 : s6.mine = false) (h7 : s7.mine = false) : ∃ s6' s7' : Sl, s6'.mine = false ∧ s7'.mine = false ∧ (forS (itX (frD 3)) (gN 6) (seqS (setS 7 (binX addD (frzO (binX modD (frzO (binX repD (nmO 6) (cO (.int 48271)))) (cO (.int 999999999989)))) (frzO (binX repD (frzO (binX powD (cO (.int 10)) (cO (.int 12)))) (frzO (binX addD (frzO (binX modD (frzO (binX repD (nmO 6) (cO (.int 69621)))) (cO (.int 999999999961)))) (cO (.int 1)))))))) (ifS (notT (truO (frzO (callX F67 [] (consA (frzO (callP (F65 8) [] (lstX (consD (frD 7) nilD)) (consA (nmO 5) (consA (cO (.int 4)) nilA)))) nilA))))) (retS (valO (cO (.bl false)))) nxS))) (lSl ns k s2 (.ow false (is.map D.int)) (.fz d) s6 s7) = .nx (lSl ns k s2 (.fz (.lst (is.map D.int))) (.fz d) s6' s7') := by
  obtain ⟨ρ', el, s6', s7', rfl, k6, k7⟩ := loopS_inv (t := gN 6) (body := inB) (fun _ ρ => ∃ s6 s7 : Sl, ρ = lSl ns k s2 (.fz (.lst (is.map D.int))) (.fz d) s6 s7 ∧ s6.mine = false ∧ s7.mine = false) (is.map D.int) 0 (lSl ns k s2 (.fz (.lst (is.map D.int))) (.fz d) s6 s7) ⟨s6, s7, rfl, h6, h7⟩ fun j x ρ hj hi => by
    obtain ⟨s6, s7, rfl, h6, h7⟩ := hi
    obtain ⟨i, _, rfl⟩ := int_in (List.mem_of_getElem? hj)
    obtain ⟨v, e⟩ := bIn (ns := ns) (k := k) (s2 := s2) (s3 := .fz (.lst (is.map D.int))) (s7 := s7) (i := i) hd h7
    refine ⟨lSl ns k s2 (.fz (.lst (is.map D.int))) (.fz d) (.fz (.int i)) s7, _, ?_, .inl e, _, _, rfl, rfl, rfl⟩
    unfold lSl
    simp only [bR_ok, bR_exc, bR_bad, kR_ok, bS_ok, bS_exc, bS_bad, nS_nx, nS_rt, nS_exc, nS_bk, nS_ct, nS_bad, gS_nx, lS_nx, lS_ct, lS_bk, lS_rt, lS_exc, fS_rt, fS_nx, fS_exc, hS_nx, hS_rt, hS_exc, pR_ok, pR_exc, oR_some, oR_none, cR_true, cR_false, xS_ok, con_vl, con_sl, conS_nil, conS_cons, loopS_nil, compL_nil, handle_nil, handle_cons, ap_bodyF, takeR_ok, takeR_exc, nmS, coS, vaS, vaA, vdS, vdA, mvS, frS, tsS, blO, ptS, muS, owB, gbS, gbD, flS, tkS, goneS, frz_fz, frz_ow, frz_oo, mine_no, mine_fz, mine_ow, mine_oo, owned_no, owned_fz, owned_ow, owned_oo, flag_no, flag_fz, flag_ow, flag_oo, give, back, argS, ownIx, wb, one, two, intS, blS, itemsD_lst, itemsD_tup, itemsD_scr, itemsD_str, enumD_lst, enumD_tup, numD_nil, numD_cons, truD_bl, truD_non, truD_int, truD_lst, truD_tup, attD, recOf, putFD, ap_gNilD, ap_gTupD, ap_gConsD, List.getElem?_cons_zero, List.getElem?_cons_succ, List.getElem?_nil, List.set_cons_zero, List.set_cons_succ, List.map_cons, List.map_nil, List.length_cons, List.length_nil, List.cons_append, List.nil_append, List.append_nil, List.replicate, List.getD_cons_zero, List.getD_cons_succ, List.getD_nil, List.nodup_nil, ite_true, ite_false, Bool.not_true, Bool.not_false, Bool.false_eq_true, reduceCtorEq, Nat.reduceSub, Nat.reduceAdd, List.nodup_cons, List.not_mem_nil, not_false_eq_true, and_self, and_true, true_and, decide_true, decide_false, List.take_succ_cons, List.take_zero, sizeLine_eq, Nat.zero_le, Nat.reduceLeDiff, Nat.reduceLT, Nat.reduceEqDiff, Bool.true_and, Bool.false_and, Bool.and_true, Bool.and_false, Bool.true_or, Bool.false_or, Bool.or_true, Bool.or_false, cp_bind, cp_pure, cp_bindS, cp_seqS, cp_nmO, cp_cO, cp_frzD, cp_frzO, cp_valO, cp_valD, cp_binX, cp_unX, cp_caX, cp_nilA, cp_consA, cp_nilD, cp_consD, cp_free_eq, cp_setS, cp_retS, cp_exprS, cp_ifS, cp_nxS, cp_retN, cp_mvX, cp_frD, cp_frO, cp_truO, cp_tstB, cp_andT, cp_orT, cp_notT, cp_notX, cp_andO, cp_orO, cp_ifE, cp_chX, cp_noO, cp_ptO, cp_slX, cp_tupX, cp_lstX, cp_dic0X, cp_itX, cp_enX, cp_rg1, cp_gN, cp_asgS, cp_forS, cp_loopS_cons, cp_callX, cp_appF, cp_mkX, cp_fldS, cp_attX, cp_raiseS1, cp_raiseS0, cp_tryS, cp_muX, cp_muN, cp_mtX, cp_hasOw_eq, cp_gSubD, cp_parS, cp_kwX, cp_yesT, cp_compX, cp_compL_cons, h6]
  refine ⟨s6', s7', k6, k7, ?_⟩
  unfold inB at el
  unfold lSl at *
  simp only [bR_ok, bR_exc, bR_bad, kR_ok, bS_ok, bS_exc, bS_bad, nS_nx, nS_rt, nS_exc, nS_bk, nS_ct, nS_bad, gS_nx, lS_nx, lS_ct, lS_bk, lS_rt, lS_exc, fS_rt, fS_nx, fS_exc, hS_nx, hS_rt, hS_exc, pR_ok, pR_exc, oR_some, oR_none, cR_true, cR_false, xS_ok, con_vl, con_sl, conS_nil, conS_cons, loopS_nil, compL_nil, handle_nil, handle_cons, ap_bodyF, takeR_ok, takeR_exc, nmS, coS, vaS, vaA, vdS, vdA, mvS, frS, tsS, blO, ptS, muS, owB, gbS, gbD, flS, tkS, goneS, frz_fz, frz_ow, frz_oo, mine_no, mine_fz, mine_ow, mine_oo, owned_no, owned_fz, owned_ow, owned_oo, flag_no, flag_fz, flag_ow, flag_oo, give, back, argS, ownIx, wb, one, two, intS, blS, itemsD_lst, itemsD_tup, itemsD_scr, itemsD_str, enumD_lst, enumD_tup, numD_nil, numD_cons, truD_bl, truD_non, truD_int, truD_lst, truD_tup, attD, recOf, putFD, ap_gNilD, ap_gTupD, ap_gConsD, List.getElem?_cons_zero, List.getElem?_cons_succ, List.getElem?_nil, List.set_cons_zero, List.set_cons_succ, List.map_cons, List.map_nil, List.length_cons, List.length_nil, List.cons_append, List.nil_append, List.append_nil, List.replicate, List.getD_cons_zero, List.getD_cons_succ, List.getD_nil, List.nodup_nil, ite_true, ite_false, Bool.not_true, Bool.not_false, Bool.false_eq_true, reduceCtorEq, Nat.reduceSub, Nat.reduceAdd, List.nodup_cons, List.not_mem_nil, not_false_eq_true, and_self, and_true, true_and, decide_true, decide_false, List.take_succ_cons, List.take_zero, sizeLine_eq, Nat.zero_le, Nat.reduceLeDiff, Nat.reduceLT, Nat.reduceEqDiff, Bool.true_and, Bool.false_and, Bool.and_true, Bool.and_false, Bool.true_or, Bool.false_or, Bool.or_true, Bool.or_false, cp_bind, cp_pure, cp_bindS, cp_seqS, cp_nmO, cp_cO, cp_frzD, cp_frzO, cp_valO, cp_valD, cp_binX, cp_unX, cp_caX, cp_nilA, cp_consA, cp_nilD, cp_consD, cp_free_eq, cp_setS, cp_retS, cp_exprS, cp_ifS, cp_nxS, cp_retN, cp_mvX, cp_frD, cp_frO, cp_truO, cp_tstB, cp_andT, cp_orT, cp_notT, cp_notX, cp_andO, cp_orO, cp_ifE, cp_chX, cp_noO, cp_ptO, cp_slX, cp_tupX, cp_lstX, cp_dic0X, cp_itX, cp_enX, cp_rg1, cp_gN, cp_asgS, cp_forS, cp_loopS_cons, cp_callX, cp_appF, cp_mkX, cp_fldS, cp_attX, cp_raiseS1, cp_raiseS0, cp_tryS, cp_muX, cp_muN, cp_mtX, cp_hasOw_eq, cp_gSubD, cp_parS, cp_kwX, cp_yesT, cp_compX, cp_compL_cons, ↓el]
theorem turn {s2 s3 s5 s6 s7 : Sl} (hk : 0 ≤ k ∧ k < 90) (h2 : s2.mine = false) (h3 : s3.mine = false) (h5 : s5.mine = false) (h6 : s6.mine = false) (h7 : s7.mine = false) :
    ∃ s2' s3' s5' s6' s7' : Sl, lawB (lSl ns k s2 s3 s5 s6 s7) = .nx (lSl ns k s2' s3' s5' s6' s7') ∧ s2'.mine = false ∧ s3'.mine = false ∧ s5'.mine = false ∧ s6'.mine = false ∧ s7'.mine = false := by
  obtain ⟨q1, e1⟩ := b2 (ns := ns) (k := k) (s3 := s3) (s5 := s5) (s6 := s6) (s7 := s7) hk h2
  obtain ⟨q2, is, _, e2⟩ := b3 (ns := ns) (k := k) (q := q1) (s5 := s5) (s6 := s6) (s7 := s7) h3
  obtain ⟨q3, d, hd, e3⟩ := b5 (ns := ns) (k := k) (q := q2) (s3 := .ow false (is.map D.int)) (s6 := s6) (s7 := s7) h5
  have e4 := b6 (ns := ns) (k := k) (s2 := .ow false [.int q3]) (s3 := .ow false (is.map D.int)) (s6 := s6) (s7 := s7) hd
  obtain ⟨s6', s7', k6, k7, e5⟩ := b7 (ns := ns) (k := k) (s2 := .ow false [.int q3]) (s3 := s3) (is := is) hd h6 h7
  refine ⟨.ow false [.int q3], .fz (.lst (is.map D.int)), .fz d, s6', s7', ?_, rfl, rfl, rfl, k6, k7⟩
  unfold lawB
  rw [ap_seqS, e1, nS_nx, ap_seqS, e2, nS_nx, ap_seqS, e3, nS_nx, ap_seqS, e4, nS_nx, e5]
end
theorem minD_int {i j : Int} : minD (.int i) (.int j) = some (.fz (.int (if j < i then j else i))) := rfl
theorem maxD_int {i j : Int} : maxD (.int i) (.int j) = some (.fz (.int (if j > i then j else i))) := rfl
theorem law_ok (ns : List Int) (_ : ns.length ≤ 63) : ∃ ρ, F68 [.fz (.scr ns)] = .ok ρ (.fz (.bl true)) := by
  obtain ⟨n, hn, hn'⟩ : ∃ n : Nat, (2 ≤ n ∧ n ≤ 12) ∧ ∀ ρ, frzO (caX (two maxD) (consA (cO (.int 2)) (consA (frzO (caX (two minD) (consA (frzO (caX (one lenD) (consA (nmO 0) nilA))) (consA (cO (.int 12)) nilA)))) nilA))) (.fz (.scr ns) :: ρ) = .ok (.fz (.scr ns) :: ρ) (.vl (.int n)) := by
    refine ⟨max 2 (min ns.length 12), by omega, fun ρ => ?_⟩
    have l1 : lenD (.scr ns) = some (.fz (.int ns.length)) := rfl
    have l2 : minD (.int ns.length) (.int 12) = some (.fz (.int (min ns.length 12 : Nat))) := by
      rw [minD_int]
      congr 3
      split <;> omega
    have l3 : maxD (.int 2) (.int (min ns.length 12 : Nat)) = some (.fz (.int (max 2 (min ns.length 12) : Nat))) := by
      rw [maxD_int]
      congr 3
      split <;> omega
    simp only [bR_ok, bR_exc, bR_bad, kR_ok, bS_ok, bS_exc, bS_bad, nS_nx, nS_rt, nS_exc, nS_bk, nS_ct, nS_bad, gS_nx, lS_nx, lS_ct, lS_bk, lS_rt, lS_exc, fS_rt, fS_nx, fS_exc, hS_nx, hS_rt, hS_exc, pR_ok, pR_exc, oR_some, oR_none, cR_true, cR_false, xS_ok, con_vl, con_sl, conS_nil, conS_cons, loopS_nil, compL_nil, handle_nil, handle_cons, ap_bodyF, takeR_ok, takeR_exc, nmS, coS, vaS, vaA, vdS, vdA, mvS, frS, tsS, blO, ptS, muS, owB, gbS, gbD, flS, tkS, goneS, frz_fz, frz_ow, frz_oo, mine_no, mine_fz, mine_ow, mine_oo, owned_no, owned_fz, owned_ow, owned_oo, flag_no, flag_fz, flag_ow, flag_oo, give, back, argS, ownIx, wb, one, two, intS, blS, itemsD_lst, itemsD_tup, itemsD_scr, itemsD_str, enumD_lst, enumD_tup, numD_nil, numD_cons, truD_bl, truD_non, truD_int, truD_lst, truD_tup, attD, recOf, putFD, ap_gNilD, ap_gTupD, ap_gConsD, List.getElem?_cons_zero, List.getElem?_cons_succ, List.getElem?_nil, List.set_cons_zero, List.set_cons_succ, List.map_cons, List.map_nil, List.length_cons, List.length_nil, List.cons_append, List.nil_append, List.append_nil, List.replicate, List.getD_cons_zero, List.getD_cons_succ, List.getD_nil, List.nodup_nil, ite_true, ite_false, Bool.not_true, Bool.not_false, Bool.false_eq_true, reduceCtorEq, Nat.reduceSub, Nat.reduceAdd, List.nodup_cons, List.not_mem_nil, not_false_eq_true, and_self, and_true, true_and, decide_true, decide_false, List.take_succ_cons, List.take_zero, sizeLine_eq, Nat.zero_le, Nat.reduceLeDiff, Nat.reduceLT, Nat.reduceEqDiff, Bool.true_and, Bool.false_and, Bool.and_true, Bool.and_false, Bool.true_or, Bool.false_or, Bool.or_true, Bool.or_false, cp_bind, cp_pure, cp_bindS, cp_seqS, cp_nmO, cp_cO, cp_frzD, cp_frzO, cp_valO, cp_valD, cp_binX, cp_unX, cp_caX, cp_nilA, cp_consA, cp_nilD, cp_consD, cp_free_eq, cp_setS, cp_retS, cp_exprS, cp_ifS, cp_nxS, cp_retN, cp_mvX, cp_frD, cp_frO, cp_truO, cp_tstB, cp_andT, cp_orT, cp_notT, cp_notX, cp_andO, cp_orO, cp_ifE, cp_chX, cp_noO, cp_ptO, cp_slX, cp_tupX, cp_lstX, cp_dic0X, cp_itX, cp_enX, cp_rg1, cp_gN, cp_asgS, cp_forS, cp_loopS_cons, cp_callX, cp_appF, cp_mkX, cp_fldS, cp_attX, cp_raiseS1, cp_raiseS0, cp_tryS, cp_muX, cp_muN, cp_mtX, cp_hasOw_eq, cp_gSubD, cp_parS, cp_kwX, cp_yesT, cp_compX, cp_compL_cons, l1, l2, l3]
  have er : ∀ ρ, rgS ρ (.int n) = .ok ρ (rngD 0 n) := fun ρ => rgS_nat (ρ := ρ) (n := n) (by omega)
  obtain ⟨ρ', el, s1, s2, s3, s5, s6, s7, rfl, _⟩ := loopS_inv (t := gN 1) (body := lawB)
    (fun _ ρ => ∃ s1 s2 s3 s5 s6 s7 : Sl, ρ = [.fz (.scr ns), s1, s2, s3, .no, s5, s6, s7, .no, .no, .no] ∧ s1.mine = false ∧ s2.mine = false ∧ s3.mine = false ∧ s5.mine = false ∧ s6.mine = false ∧ s7.mine = false)
    (rngD 0 n) 0 [.fz (.scr ns), .no, .no, .no, .no, .no, .no, .no, .no, .no, .no] ⟨_, _, _, _, _, _, rfl, rfl, rfl, rfl, rfl, rfl, rfl⟩ fun j d ρ hj hi => by
    obtain ⟨s1, s2, s3, s5, s6, s7, rfl, h1, h2, h3, h5, h6, h7⟩ := hi
    obtain ⟨i, rfl, i0, i1⟩ := mem_rngD (List.mem_of_getElem? hj)
    obtain ⟨s2', s3', s5', s6', s7', e, q⟩ := turn (ns := ns) (k := i) ⟨i0, by omega⟩ h2 h3 h5 h6 h7
    refine ⟨lSl ns i s2 s3 s5 s6 s7, _, ?_, .inl e, .fz (.int i), s2', s3', s5', s6', s7', rfl, rfl, q⟩
    unfold lSl
    simp only [bR_ok, bR_exc, bR_bad, kR_ok, bS_ok, bS_exc, bS_bad, nS_nx, nS_rt, nS_exc, nS_bk, nS_ct, nS_bad, gS_nx, lS_nx, lS_ct, lS_bk, lS_rt, lS_exc, fS_rt, fS_nx, fS_exc, hS_nx, hS_rt, hS_exc, pR_ok, pR_exc, oR_some, oR_none, cR_true, cR_false, xS_ok, con_vl, con_sl, conS_nil, conS_cons, loopS_nil, compL_nil, handle_nil, handle_cons, ap_bodyF, takeR_ok, takeR_exc, nmS, coS, vaS, vaA, vdS, vdA, mvS, frS, tsS, blO, ptS, muS, owB, gbS, gbD, flS, tkS, goneS, frz_fz, frz_ow, frz_oo, mine_no, mine_fz, mine_ow, mine_oo, owned_no, owned_fz, owned_ow, owned_oo, flag_no, flag_fz, flag_ow, flag_oo, give, back, argS, ownIx, wb, one, two, intS, blS, itemsD_lst, itemsD_tup, itemsD_scr, itemsD_str, enumD_lst, enumD_tup, numD_nil, numD_cons, truD_bl, truD_non, truD_int, truD_lst, truD_tup, attD, recOf, putFD, ap_gNilD, ap_gTupD, ap_gConsD, List.getElem?_cons_zero, List.getElem?_cons_succ, List.getElem?_nil, List.set_cons_zero, List.set_cons_succ, List.map_cons, List.map_nil, List.length_cons, List.length_nil, List.cons_append, List.nil_append, List.append_nil, List.replicate, List.getD_cons_zero, List.getD_cons_succ, List.getD_nil, List.nodup_nil, ite_true, ite_false, Bool.not_true, Bool.not_false, Bool.false_eq_true, reduceCtorEq, Nat.reduceSub, Nat.reduceAdd, List.nodup_cons, List.not_mem_nil, not_false_eq_true, and_self, and_true, true_and, decide_true, decide_false, List.take_succ_cons, List.take_zero, sizeLine_eq, Nat.zero_le, Nat.reduceLeDiff, Nat.reduceLT, Nat.reduceEqDiff, Bool.true_and, Bool.false_and, Bool.and_true, Bool.and_false, Bool.true_or, Bool.false_or, Bool.or_true, Bool.or_false, cp_bind, cp_pure, cp_bindS, cp_seqS, cp_nmO, cp_cO, cp_frzD, cp_frzO, cp_valO, cp_valD, cp_binX, cp_unX, cp_caX, cp_nilA, cp_consA, cp_nilD, cp_consD, cp_free_eq, cp_setS, cp_retS, cp_exprS, cp_ifS, cp_nxS, cp_retN, cp_mvX, cp_frD, cp_frO, cp_truO, cp_tstB, cp_andT, cp_orT, cp_notT, cp_notX, cp_andO, cp_orO, cp_ifE, cp_chX, cp_noO, cp_ptO, cp_slX, cp_tupX, cp_lstX, cp_dic0X, cp_itX, cp_enX, cp_rg1, cp_gN, cp_asgS, cp_forS, cp_loopS_cons, cp_callX, cp_appF, cp_mkX, cp_fldS, cp_attX, cp_raiseS1, cp_raiseS0, cp_tryS, cp_muX, cp_muN, cp_mtX, cp_hasOw_eq, cp_gSubD, cp_parS, cp_kwX, cp_yesT, cp_compX, cp_compL_cons, h1]
  have g1 := f1 (ns := ns) (a := s1) (b := s2) (c := s3) (d := s5) (e := s6) (f := s7)
  have g2 := f2 (ns := ns) (a := s1) (b := s2) (c := s3) (d := s5) (e := s6) (f := s7) (s8 := .ow false thS)
  have g3 := f3 (ns := ns) (a := s1) (b := s2) (c := s3) (d := s5) (e := s6) (f := s7)
  have g4 := f4 (ns := ns) (a := s1) (b := s2) (c := s3) (d := s5) (e := s6) (f := s7) (L := thS ++ thT) (by decide) allT
  refine ⟨[.fz (.scr ns)], ?_⟩
  have eb : g68 [.fz (.scr ns), .no, .no, .no, .no, .no, .no, .no, .no, .no, .no] = .rt (fSl ns s1 s2 s3 s5 s6 s7 (.fz (.lst (thS ++ thT))) (.fz oneS)) (.fz (.bl true)) := by
    unfold lawB at el
    have e0 : (forS (rg1 (frzO (caX (two maxD) (consA (cO (.int 2)) (consA (frzO (caX (two minD) (consA (frzO (caX (one lenD) (consA (nmO 0) nilA))) (consA (cO (.int 12)) nilA)))) nilA))))) (gN 1) (seqS (setS 2 (callX F58 [] (consA (nmO 0) (consA (nmO 1) nilA)))) (seqS (setS 3 (compX [4] (rg1 (cO (.int 6))) (gN 4) yesT (frzD (callX F59 [] (consA (nmO 2) (consA (frzO (binX powD (cO (.int 10)) (cO (.int 9)))) nilA)))))) (seqS (setS 5 (callX F61 [] (consA (nmO 2) nilA))) (seqS (ifS (notT (truO (frzO (callX F67 [] (consA (nmO 5) nilA))))) (retS (valO (cO (.bl false)))) nxS) (forS (itX (frD 3)) (gN 6) (seqS (setS 7 (binX addD (frzO (binX modD (frzO (binX repD (nmO 6) (cO (.int 48271)))) (cO (.int 999999999989)))) (frzO (binX repD (frzO (binX powD (cO (.int 10)) (cO (.int 12)))) (frzO (binX addD (frzO (binX modD (frzO (binX repD (nmO 6) (cO (.int 69621)))) (cO (.int 999999999961)))) (cO (.int 1)))))))) (ifS (notT (truO (frzO (callX F67 [] (consA (frzO (callP (F65 8) [] (lstX (consD (frD 7) nilD)) (consA (nmO 5) (consA (cO (.int 4)) nilA)))) nilA))))) (retS (valO (cO (.bl false)))) nxS)))))))) [.fz (.scr ns), .no, .no, .no, .no, .no, .no, .no, .no, .no, .no] = .nx (fSl ns s1 s2 s3 s5 s6 s7 .no .no) := by
      unfold fSl
      simp only [bR_ok, bR_exc, bR_bad, kR_ok, bS_ok, bS_exc, bS_bad, nS_nx, nS_rt, nS_exc, nS_bk, nS_ct, nS_bad, gS_nx, lS_nx, lS_ct, lS_bk, lS_rt, lS_exc, fS_rt, fS_nx, fS_exc, hS_nx, hS_rt, hS_exc, pR_ok, pR_exc, oR_some, oR_none, cR_true, cR_false, xS_ok, con_vl, con_sl, conS_nil, conS_cons, loopS_nil, compL_nil, handle_nil, handle_cons, ap_bodyF, takeR_ok, takeR_exc, nmS, coS, vaS, vaA, vdS, vdA, mvS, frS, tsS, blO, ptS, muS, owB, gbS, gbD, flS, tkS, goneS, frz_fz, frz_ow, frz_oo, mine_no, mine_fz, mine_ow, mine_oo, owned_no, owned_fz, owned_ow, owned_oo, flag_no, flag_fz, flag_ow, flag_oo, give, back, argS, ownIx, wb, one, two, intS, blS, itemsD_lst, itemsD_tup, itemsD_scr, itemsD_str, enumD_lst, enumD_tup, numD_nil, numD_cons, truD_bl, truD_non, truD_int, truD_lst, truD_tup, attD, recOf, putFD, ap_gNilD, ap_gTupD, ap_gConsD, List.getElem?_cons_zero, List.getElem?_cons_succ, List.getElem?_nil, List.set_cons_zero, List.set_cons_succ, List.map_cons, List.map_nil, List.length_cons, List.length_nil, List.cons_append, List.nil_append, List.append_nil, List.replicate, List.getD_cons_zero, List.getD_cons_succ, List.getD_nil, List.nodup_nil, ite_true, ite_false, Bool.not_true, Bool.not_false, Bool.false_eq_true, reduceCtorEq, Nat.reduceSub, Nat.reduceAdd, List.nodup_cons, List.not_mem_nil, not_false_eq_true, and_self, and_true, true_and, decide_true, decide_false, List.take_succ_cons, List.take_zero, sizeLine_eq, Nat.zero_le, Nat.reduceLeDiff, Nat.reduceLT, Nat.reduceEqDiff, Bool.true_and, Bool.false_and, Bool.and_true, Bool.and_false, Bool.true_or, Bool.false_or, Bool.or_true, Bool.or_false, cp_bind, cp_pure, cp_bindS, cp_seqS, cp_nmO, cp_cO, cp_frzD, cp_frzO, cp_valO, cp_valD, cp_binX, cp_unX, cp_caX, cp_nilA, cp_consA, cp_nilD, cp_consD, cp_free_eq, cp_setS, cp_retS, cp_exprS, cp_ifS, cp_nxS, cp_retN, cp_mvX, cp_frD, cp_frO, cp_truO, cp_tstB, cp_andT, cp_orT, cp_notT, cp_notX, cp_andO, cp_orO, cp_ifE, cp_chX, cp_noO, cp_ptO, cp_slX, cp_tupX, cp_lstX, cp_dic0X, cp_itX, cp_enX, cp_rg1, cp_gN, cp_asgS, cp_forS, cp_loopS_cons, cp_callX, cp_appF, cp_mkX, cp_fldS, cp_attX, cp_raiseS1, cp_raiseS0, cp_tryS, cp_muX, cp_muN, cp_mtX, cp_hasOw_eq, cp_gSubD, cp_parS, cp_kwX, cp_yesT, cp_compX, cp_compL_cons, ↓hn', er, ↓el]
    unfold g68
    rw [ap_seqS, e0, nS_nx, ap_seqS, g1, nS_nx, ap_seqS, g2, nS_nx, ap_seqS, g3, nS_nx, g4]
  unfold F68
  have es : ([.fz (.scr ns)] : List Sl).map give ++ List.replicate (11 - ([.fz (.scr ns)] : List Sl).length) .no = [.fz (.scr ns), .no, .no, .no, .no, .no, .no, .no, .no, .no, .no] := rfl
  unfold bodyF
  rw [es, eb]
  rfl
end M
theorem PySem.Challenge.cw_willdealt_k16_what_a_whom_is_holds : PySem.Challenge.rw_willdealt_k16_what_a_whom_is.Holds := by
  exact holds_of M.law_ok
