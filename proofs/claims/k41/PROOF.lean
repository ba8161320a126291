import PyProof.Rows.All
import Wide.All
import OpenK.AllK
import Wide.FinOn
import HandS.ForMost
import HandS.Walk
import HandS.Zip
import HandS.TupAny
import HandS.Deep
import HandS.IsInst
import HandS.Flow
import HandS.Star
import HandS.Exc
import HandS.ExcOwn
import HandS.TryOnly
import HandS.WordsExc
import HandS.Strs
import HandS.SetFor
import HandS.TupMul
import HandS.SortInts
import KE.OsSort
import PyProof.LongRange
import HandS.Conv
import KE.SortCalls
import HandS.Ends
import HandS.EndBits
import KE.GoesEnum
import HandS.TupSets
import KE.KeyNested
import KE.GoesMore
import HandS.DictComp
import HandS.RaiseMore
import HandS.Style
import PySem.Challenge.RW_jumpfingers_k41_whole_machines_alike_lea
section
set_option Elab.async false
set_option linter.all false
set_option maxRecDepth 100000
set_option maxHeartbeats 2000000
/-! DLA: data, their places in memory, the monad of mirrors, the judgements over data -/
namespace DL
open PySem PySem.Spec PyProof.Rows L2

abbrev Tin := Int × Int × Int
/-- what stands still: the program, the world, the written part -/
structure Kc where
  P : Program
  w : World
  K : PySem.W.Frag
abbrev kc (X : Cx) : Kc := ⟨X.prog, X.w, X.K⟩
/-- data -/
inductive D where
  | non | bl (b : Bool) | int (i : Int) | str (x : Str) | tup (xs : List D) | lst (xs : List D) | scr (ns : List Int) | tin | dct (ps : List (Int × Int))
/-- how a piece of code ends: a value, an own exception by its class's name, or outside of what is told -/
inductive R (α : Type) where
  | ok (a : α) (τ : Tin) | exc (e : Str) (τ : Tin) | no
def M (α : Type) : Type := Tin → R α
namespace M
variable {α β γ : Type}
def pure (a : α) : M α := fun τ => .ok a τ
def bind (x : M α) (f : α → M β) : M β := fun τ => match x τ with
  | .ok a τ1 => f a τ1
  | .exc e τ1 => .exc e τ1
  | .no => .no
def no : M α := fun _ => .no
def exc (e : Str) : M α := fun τ => .exc e τ
def lift : Option α → M α
  | some a => pure a
  | none => no
theorem pure_bind (a : α) (f : α → M β) : bind (pure a) f = f a := rfl
theorem bind_assoc (x : M α) (f : α → M β) (g : β → M γ) : bind (bind x f) g = bind x fun a => bind (f a) g := by
  funext τ
  unfold bind
  cases x τ <;> rfl
theorem bind_pure (x : M α) : bind x pure = x := by
  funext τ
  unfold bind pure
  cases x τ <;> rfl
theorem bind_ok {x : M α} {f : α → M β} {τ τ1 : Tin} {a : α} (h : x τ = .ok a τ1) : bind x f τ = f a τ1 := by
  unfold bind
  rw [h]
theorem no_bind (f : α → M β) : bind no f = no := rfl
theorem lift_some (a : α) : lift (some a) = pure a := rfl
theorem lift_none : lift (none : Option α) = no := rfl
end M

def wpR {α : Type} (r : R α) (P : α → Tin → Prop) (E : Str → Tin → Prop) : Prop := match r with
  | .ok a τ => P a τ
  | .exc e τ => E e τ
  | .no => False
section
variable {α β : Type} {P Q : α → Tin → Prop} {E F : Str → Tin → Prop} {τ : Tin}
theorem wpR_bind {x : M α} {f : α → M β} {P : β → Tin → Prop} (h : wpR (M.bind x f τ) P E) : wpR (x τ) (fun a τ1 => wpR (f a τ1) P E) E := by
  unfold M.bind at h
  cases e : x τ with
  | ok a τ1 => rw [e] at h; exact h
  | exc c τ1 => rw [e] at h; exact h
  | no => rw [e] at h; exact h
theorem wpR_mono {r : R α} (h : wpR r P E) (hp : ∀ a τ, P a τ → Q a τ) (he : ∀ e τ, E e τ → F e τ) : wpR r Q F := by
  cases r with
  | ok a τ1 => exact hp _ _ h
  | exc c τ1 => exact he _ _ h
  | no => exact h
theorem wpR_lift {o : Option α} (h : wpR (M.lift o τ) P E) : ∃ a, o = some a ∧ P a τ := by
  cases o with
  | none => exact h.elim
  | some a => exact ⟨a, rfl, h⟩
end

/-! ### how data lie -/
def dV (ps : List (Int × Int)) : List (Key × V) := ps.map fun p => (.inl p.1, .int p.2)
mutual
/-- d at v, by the part F of the heap that stays; T: where the drawing list stands -/
inductive Rep (κ : Kc) (T : Option Addr) (F : Hp) : V → D → Prop
  | non : Rep κ T F .non .non
  | bl (b : Bool) : Rep κ T F (.bl b) (.bl b)
  | int (i : Int) : Rep κ T F (.int i) (.int i)
  | str (x : Str) : Rep κ T F (.str x) (.str x)
  | tup {a : Addr} {vs : List V} {ds : List D} : SqT κ.K F a vs → RepAll κ T F vs ds → Rep κ T F (.ref a) (.tup ds)
  | lst {a : Addr} {vs : List V} {ds : List D} : F a = some (.lst vs) → RepAll κ T F vs ds → Rep κ T F (.ref a) (.lst ds)
  | scr {a : Addr} {ns : List Int} : SqL κ.K F a (ns.map V.int) → Rep κ T F (.ref a) (.scr ns)
  | tin {a : Addr} : T = some a → Rep κ T F (.ref a) .tin
  | dct {a : Addr} {ps : List (Int × Int)} : F a = some (.dK (dV ps)) → Rep κ T F (.ref a) (.dct ps)
inductive RepAll (κ : Kc) (T : Option Addr) (F : Hp) : List V → List D → Prop
  | nil : RepAll κ T F [] []
  | cons {v : V} {vs : List V} {d : D} {ds : List D} : Rep κ T F v d → RepAll κ T F vs ds → RepAll κ T F (v :: vs) (d :: ds)
end
section
variable {κ : Kc} {T : Option Addr} {F F' H H' : Hp} {a : Addr} {v : V} {vs : List V} {d : D} {ds : List D}
theorem seqT (e : Same H H') (h : SqT κ.K H a vs) : SqT κ.K H' a vs := by
  rcases h with (h | ⟨o, h⟩) | h
  · exact .inl (.inl (e _ _ h))
  · exact .inl (.inr ⟨o, e _ _ h⟩)
  · exact .inr h
mutual
theorem Rep.mono (h : Same F F') : ∀ {v : V} {d : D}, Rep κ T F v d → Rep κ T F' v d
  | _, _, .non => .non
  | _, _, .bl b => .bl b
  | _, _, .int i => .int i
  | _, _, .str x => .str x
  | _, _, .tup s r => .tup (seqT h s) (RepAll.mono h r)
  | _, _, .lst s r => .lst (h _ _ s) (RepAll.mono h r)
  | _, _, .scr s => .scr (h.seq s)
  | _, _, .tin e => .tin e
  | _, _, .dct s => .dct (h _ _ s)
theorem RepAll.mono (h : Same F F') : ∀ {vs : List V} {ds : List D}, RepAll κ T F vs ds → RepAll κ T F' vs ds
  | _, _, .nil => .nil
  | _, _, .cons r t => .cons (Rep.mono h r) (RepAll.mono h t)
end
theorem RepAll.length : ∀ {vs : List V} {ds : List D}, RepAll κ T F vs ds → vs.length = ds.length
  | _, _, .nil => rfl
  | _, _, .cons _ t => by rw [List.length_cons, List.length_cons, RepAll.length t]
theorem RepAll.get : ∀ {vs : List V} {ds : List D} {i : Nat} {d : D}, RepAll κ T F vs ds → ds[i]? = some d → ∃ v, vs[i]? = some v ∧ Rep κ T F v d
  | _, _, _, _, .nil, e => by simp at e
  | _, _, 0, _, .cons r _, e => by simp at e; subst e; exact ⟨_, rfl, r⟩
  | _, _, i + 1, _, .cons _ t, e => by
    obtain ⟨v, h1, h2⟩ := RepAll.get (i := i) t (by simpa using e)
    exact ⟨v, by simpa using h1, h2⟩
theorem RepAll.get' : ∀ {vs : List V} {ds : List D} {i : Nat} {v : V}, RepAll κ T F vs ds → vs[i]? = some v → ∃ d, ds[i]? = some d ∧ Rep κ T F v d
  | _, _, _, _, .nil, e => by simp at e
  | _, _, 0, _, .cons r _, e => by simp at e; subst e; exact ⟨_, rfl, r⟩
  | _, _, i + 1, _, .cons _ t, e => by
    obtain ⟨v, h1, h2⟩ := RepAll.get' (i := i) t (by simpa using e)
    exact ⟨v, by simpa using h1, h2⟩
theorem RepAll.append : ∀ {vs ws : List V} {ds es : List D}, RepAll κ T F vs ds → RepAll κ T F ws es → RepAll κ T F (vs ++ ws) (ds ++ es)
  | _, _, _, _, .nil, s => s
  | _, _, _, _, .cons r t, s => .cons r (RepAll.append t s)
theorem RepAll.take : ∀ {vs : List V} {ds : List D} (n : Nat), RepAll κ T F vs ds → RepAll κ T F (vs.take n) (ds.take n)
  | _, _, 0, _ => by simp only [List.take_zero]; exact .nil
  | _, _, _ + 1, .nil => .nil
  | _, _, n + 1, .cons r t => .cons r (RepAll.take n t)
theorem RepAll.drop : ∀ {vs : List V} {ds : List D} (n : Nat), RepAll κ T F vs ds → RepAll κ T F (vs.drop n) (ds.drop n)
  | _, _, 0, r => by simpa using r
  | _, _, _ + 1, .nil => .nil
  | _, _, n + 1, .cons _ t => RepAll.drop n t
theorem RepAll.set : ∀ {vs : List V} {ds : List D} (i : Nat) {v : V} {d : D}, RepAll κ T F vs ds → Rep κ T F v d → RepAll κ T F (vs.set i v) (ds.set i d)
  | _, _, _, _, _, .nil, _ => .nil
  | _, _, 0, _, _, .cons _ t, q => .cons q t
  | _, _, i + 1, _, _, .cons r t, q => .cons r (RepAll.set i t q)
theorem RepAll.reverse : ∀ {vs : List V} {ds : List D}, RepAll κ T F vs ds → RepAll κ T F vs.reverse ds.reverse
  | _, _, .nil => .nil
  | _, _, .cons r t => by
    rw [List.reverse_cons, List.reverse_cons]
    exact RepAll.append (RepAll.reverse t) (.cons r .nil)
theorem RepAll.ints : ∀ {vs : List V} {ns : List Int}, RepAll κ T F vs (ns.map D.int) → vs = ns.map V.int
  | _, [], .nil => rfl
  | _, n :: ns, .cons r t => by
    cases r
    rw [List.map_cons, RepAll.ints t]
theorem repAll_ints : ∀ ns : List Int, RepAll κ T F (ns.map V.int) (ns.map D.int)
  | [] => .nil
  | n :: ns => .cons (.int n) (repAll_ints ns)
theorem RepAll.bls : ∀ {vs : List V} {bs : List Bool}, RepAll κ T F vs (bs.map D.bl) → vs = bs.map V.bl
  | _, [], .nil => rfl
  | _, n :: ns, .cons r t => by
    cases r
    rw [List.map_cons, RepAll.bls t]
end

/-- at the base: what stays is there, the drawing list is elsewhere -/
structure Bs (T : Option Addr) (F H : Hp) (τ : Tin) : Prop where
  le : Same F H
  tn : ∀ a, T = some a → F a = none ∧ H a = some (.lst [.int τ.1, .int τ.2.1, .int τ.2.2])
/-- what a piece of code does: all stays but the drawing list -/
structure Ext (T : Option Addr) (F H F' H' : Hp) (τ' : Tin) : Prop where
  keep : ∀ a o, H a = some o → T ≠ some a → H' a = some o
  le : Same F F'
  sub : Same F' H'
  new : ∀ a o, F' a = some o → F a = some o ∨ H a = none
  tn : ∀ a, T = some a → F' a = none ∧ H' a = some (.lst [.int τ'.1, .int τ'.2.1, .int τ'.2.2])
section
variable {κ : Kc} {T : Option Addr} {F H F' H' F1 H1 F2 H2 : Hp} {τ τ' τ1 τ2 : Tin}
theorem Bs.refl (b : Bs T F H τ) : Ext T F H F H τ := ⟨fun _ _ e _ => e, Same.refl F, b.le, fun _ _ e => .inl e, b.tn⟩
theorem Ext.bs (e : Ext T F H F' H' τ') : Bs T F' H' τ' := ⟨e.sub, e.tn⟩
theorem Ext.trans (a : Ext T F H F1 H1 τ1) (b : Ext T F1 H1 F2 H2 τ2) : Ext T F H F2 H2 τ2 where
  keep := fun c o q n => b.keep c o (a.keep c o q n) n
  le := a.le.trans b.le
  sub := b.sub
  new := fun c o q => by
    rcases b.new c o q with h | h
    · exact a.new c o h
    · refine .inr ?_
      cases e : H c with
      | none => rfl
      | some u =>
        by_cases ht : T = some c
        · rw [(a.tn c ht).2] at h; cases h
        · rw [a.keep c u e ht] at h; cases h
  tn := b.tn
/-- a new object p of what stays -/
theorem Bs.push (b : Bs T F H τ) {p : Addr} {o : HO} (hp : H p = none) : Ext T F H (upd F p o) (upd H p o) τ := by
  have hF : F p = none := Same.free b.le hp
  refine ⟨fun c u q _ => ?_, fun c u q => ?_, fun c u q => ?_, fun c u q => ?_, fun c q => ?_⟩
  · rw [upd_ne (ne_of_none q hp)]; exact q
  · rw [upd_ne (ne_of_none q hF)]; exact q
  · by_cases h : c = p
    · subst h; rw [upd_same] at q ⊢; exact q
    · rw [upd_ne h] at q ⊢; exact b.le _ _ q
  · by_cases h : c = p
    · subst h; exact .inr hp
    · rw [upd_ne h] at q; exact .inl q
  · obtain ⟨h1, h2⟩ := b.tn c q
    have h : c ≠ p := ne_of_none h2 hp
    exact ⟨by rw [upd_ne h]; exact h1, by rw [upd_ne h]; exact h2⟩
/-- a new object p that is not (yet) of what stays -/
theorem Bs.aside (b : Bs T F H τ) {p : Addr} {o : HO} (hp : H p = none) : Ext T F H F (upd H p o) τ := by
  refine ⟨fun c u q _ => ?_, Same.refl F, fun c u q => ?_, fun c u q => .inl q, fun c q => ?_⟩
  · rw [upd_ne (ne_of_none q hp)]; exact q
  · rw [upd_ne (ne_of_none (b.le _ _ q) hp)]; exact b.le _ _ q
  · obtain ⟨h1, h2⟩ := b.tn c q
    exact ⟨h1, by rw [upd_ne (ne_of_none h2 hp)]; exact h2⟩
end

/-- .. or a list that is not of what stays, with items that are -/
def RepTop (κ : Kc) (T : Option Addr) (F H : Hp) (v : V) (d : D) : Prop :=
  Rep κ T F v d ∨ ∃ (a : Addr) (vs : List V) (ds : List D), v = .ref a ∧ d = .lst ds ∧ H a = some (.lst vs) ∧ T ≠ some a ∧ RepAll κ T F vs ds
def RepM (m : Bool) (κ : Kc) (T : Option Addr) (F H : Hp) (v : V) (d : D) : Prop := match m with
  | false => Rep κ T F v d
  | true => RepTop κ T F H v d
inductive RepMs (m : Bool) (κ : Kc) (T : Option Addr) (F H : Hp) : List V → List D → Prop
  | nil : RepMs m κ T F H [] []
  | cons {v : V} {vs : List V} {d : D} {ds : List D} : RepM m κ T F H v d → RepMs m κ T F H vs ds → RepMs m κ T F H (v :: vs) (d :: ds)
section
variable {m : Bool} {κ : Kc} {T : Option Addr} {F H F' H' : Hp} {τ τ' : Tin} {v : V} {vs : List V} {d : D} {ds : List D}
theorem RepTop.ext (r : RepTop κ T F H v d) (e : Ext T F H F' H' τ') : RepTop κ T F' H' v d := by
  rcases r with r | ⟨a, vs, ds, h1, h2, h3, h4, h5⟩
  · exact .inl (r.mono e.le)
  · exact .inr ⟨a, vs, ds, h1, h2, e.keep _ _ h3 h4, h4, h5.mono e.le⟩
theorem RepM.ext (r : RepM m κ T F H v d) (e : Ext T F H F' H' τ') : RepM m κ T F' H' v d := by
  cases m with
  | false => exact Rep.mono e.le r
  | true => exact RepTop.ext r e
theorem RepMs.ext (e : Ext T F H F' H' τ') : ∀ {vs : List V} {ds : List D}, RepMs m κ T F H vs ds → RepMs m κ T F' H' vs ds
  | _, _, .nil => .nil
  | _, _, .cons r t => .cons (r.ext e) (RepMs.ext e t)
theorem repM (r : Rep κ T F v d) : RepM m κ T F H v d := by
  cases m with
  | false => exact r
  | true => exact .inl r
theorem RepM.top (r : RepM m κ T F H v d) : RepTop κ T F H v d := by
  cases m with
  | false => exact .inl r
  | true => exact r
theorem RepMs.all : ∀ {vs : List V} {ds : List D}, RepMs false κ T F H vs ds → RepAll κ T F vs ds
  | _, _, .nil => .nil
  | _, _, .cons r t => .cons r (RepMs.all t)
theorem RepMs.length : ∀ {vs : List V} {ds : List D}, RepMs m κ T F H vs ds → vs.length = ds.length
  | _, _, .nil => rfl
  | _, _, .cons _ t => by rw [List.length_cons, List.length_cons, RepMs.length t]
/-- in the whole heap -/
theorem RepTop.inH (r : RepTop κ T F H v d) (h : Same F H) : Rep κ T H v d := by
  rcases r with r | ⟨a, vs, ds, rfl, rfl, h3, h4, h5⟩
  · exact r.mono h
  · exact .lst h3 (h5.mono h)
theorem RepTop.lst (r : RepTop κ T F H v (.lst ds)) (h : Same F H) : ∃ (a : Addr) (vs : List V), v = .ref a ∧ H a = some (.lst vs) ∧ RepAll κ T F vs ds := by
  rcases r with r | ⟨a, vs, es, h1, h2, h3, h4, h5⟩
  · cases r with
    | lst h1 h2 => exact ⟨_, _, rfl, h _ _ h1, h2⟩
  · cases h2
    exact ⟨a, vs, h1, h3, h5⟩
theorem RepTop.tup (r : RepTop κ T F H v (.tup ds)) : ∃ (a : Addr) (vs : List V), v = .ref a ∧ SqT κ.K F a vs ∧ RepAll κ T F vs ds := by
  rcases r with r | ⟨a, vs, es, h1, h2, h3, h4, h5⟩
  · cases r with
    | tup h1 h2 => exact ⟨_, _, rfl, h1, h2⟩
  · cases h2
theorem RepTop.int {i : Int} (r : RepTop κ T F H v (.int i)) : v = .int i := by
  rcases r with r | ⟨a, vs, es, h1, h2, h3, h4, h5⟩
  · cases r; rfl
  · cases h2
theorem RepTop.bl {i : Bool} (r : RepTop κ T F H v (.bl i)) : v = .bl i := by
  rcases r with r | ⟨a, vs, es, h1, h2, h3, h4, h5⟩
  · cases r; rfl
  · cases h2
theorem RepTop.str {i : Str} (r : RepTop κ T F H v (.str i)) : v = .str i := by
  rcases r with r | ⟨a, vs, es, h1, h2, h3, h4, h5⟩
  · cases r; rfl
  · cases h2
theorem RepTop.non (r : RepTop κ T F H v .non) : v = .non := by
  rcases r with r | ⟨a, vs, es, h1, h2, h3, h4, h5⟩
  · cases r; rfl
  · cases h2
theorem RepTop.dct {ps : List (Int × Int)} (r : RepTop κ T F H v (.dct ps)) : ∃ a, v = .ref a ∧ F a = some (.dK (dV ps)) := by
  rcases r with r | ⟨a, vs, ds, h1, h2, h3, h4, h5⟩
  · cases r with
    | dct h => exact ⟨_, rfl, h⟩
  · cases h2
theorem RepTop.scr {ns : List Int} (r : RepTop κ T F H v (.scr ns)) : ∃ a, v = .ref a ∧ SqL κ.K F a (ns.map V.int) := by
  rcases r with r | ⟨a, vs, es, h1, h2, h3, h4, h5⟩
  · cases r with
    | scr h => exact ⟨_, rfl, h⟩
  · cases h2
end

/-! ### slots -/
inductive S where
  | un | d (d : D) | own (xs : List D)
abbrev Env := List S
def SlotOk (κ : Kc) (T : Option Addr) (F H : Hp) (v : Option V) : S → Prop
  | .un => True
  | .d d => ∃ x, v = some x ∧ Rep κ T F x d
  | .own ds => ∃ (a : Addr) (vs : List V), v = some (.ref a) ∧ H a = some (.lst vs) ∧ F a = none ∧ T ≠ some a ∧ RepAll κ T F vs ds
structure SR (κ : Kc) (T : Option Addr) (F H : Hp) (σ : L2.St) (ρ : Env) (τ : Tin) : Prop where
  bs : Bs T F H τ
  len : σ.length = ρ.length
  slot : ∀ (i : Nat) (s : S), ρ[i]? = some s → ∃ v, σ[i]? = some v ∧ SlotOk κ T F H v s
  apart : ∀ (i j : Nat) (xs ys : List D) (a : Addr), ρ[i]? = some (.own xs) → ρ[j]? = some (.own ys) → σ[i]? = some (some (.ref a)) → σ[j]? = some (some (.ref a)) → i = j
section
variable {κ : Kc} {T : Option Addr} {F H F' H' : Hp} {σ : L2.St} {ρ : Env} {τ τ' : Tin}
theorem SR.ext (s : SR κ T F H σ ρ τ) (e : Ext T F H F' H' τ') : SR κ T F' H' σ ρ τ' := by
  refine ⟨e.bs, s.len, fun i x h => ?_, s.apart⟩
  obtain ⟨v, hv, q⟩ := s.slot i x h
  refine ⟨v, hv, ?_⟩
  cases x with
  | un => trivial
  | d d => obtain ⟨x, h1, h2⟩ := q; exact ⟨x, h1, h2.mono e.le⟩
  | own ds =>
    obtain ⟨a, vs, h1, h2, h3, h4, h5⟩ := q
    refine ⟨a, vs, h1, e.keep _ _ h2 h4, ?_, h4, h5.mono e.le⟩
    cases q : F' a with
    | none => rfl
    | some o =>
      rcases e.new a o q with z | z
      · rw [h3] at z; cases z
      · rw [h2] at z; cases z
end

/-! ### judgements -/
/-- the exception of the class named e, as the wish W has it -/
def wX (mg : Str → Option Value) (W : WX) (T : Option Addr) (F H : Hp) (σ : L2.St) (e : Str) (τ' : Tin) : Prop :=
  ∀ F' H' cl, Ext T F H F' H' τ' → mg e = some cl → W cl none σ H'
def tD (κ : Kc) (mg : Str → Option Value) (W : WX) (m : Bool) (f : Env → M D) : TE := fun σ H Q => ∃ T F ρ τ, SR κ T F H σ ρ τ ∧
  wpR (f ρ τ) (fun d τ' => ∀ v F' H', Ext T F H F' H' τ' → RepM m κ T F' H' v d → Q v H') (wX mg W T F H σ)
def tDs (κ : Kc) (mg : Str → Option Value) (W : WX) (m : Bool) (f : Env → M (List D)) : TA := fun σ H Q => ∃ T F ρ τ, SR κ T F H σ ρ τ ∧
  wpR (f ρ τ) (fun ds τ' => ∀ vs F' H', Ext T F H F' H' τ' → RepMs m κ T F' H' vs ds → Q vs H') (wX mg W T F H σ)
def tDT (κ : Kc) (mg : Str → Option Value) (W : WX) (f : Env → M Bool) : TT := fun σ H Q => ∃ T F ρ τ, SR κ T F H σ ρ τ ∧
  wpR (f ρ τ) (fun b τ' => ∀ F' H', Ext T F H F' H' τ' → Q b H') (wX mg W T F H σ)
abbrev DE (X : Cx) (W : WX) (m : Bool) (e : Expr) (f : Env → M D) : Prop := PE X e (tD (kc X) X.mg W m f)
abbrev DA (X : Cx) (W : WX) (m : Bool) (es : List Expr) (f : Env → M (List D)) : Prop := PA X es (tDs (kc X) X.mg W m f)
abbrev DT (X : Cx) (W : WX) (e : Expr) (f : Env → M Bool) : Prop := PT X e (tDT (kc X) X.mg W f)
abbrev DW (X : Cx) (W : WX) (e : Expr) (f : Env → M Bool) : Prop := PW X e (tDT (kc X) X.mg W f)
theorem impPE {X : Cx} {e : Expr} {t t' : TE} (h : PE X e t) (i : ∀ σ H Q, t' σ H Q → t σ H Q) : PE X e t' := ⟨fun pins s σ H Q I q => h.run pins s σ H Q I (i σ H Q q)⟩
theorem impPT {X : Cx} {e : Expr} {t t' : TT} (h : PT X e t) (i : ∀ σ H Q, t' σ H Q → t σ H Q) : PT X e t' := ⟨fun pins s σ H Q I q => h.run pins s σ H Q I (i σ H Q q)⟩
theorem impPW {X : Cx} {e : Expr} {t t' : TT} (h : PW X e t) (i : ∀ σ H Q, t' σ H Q → t σ H Q) : PW X e t' := ⟨fun wh pins s σ H Q I q => h.run wh pins s σ H Q I (i σ H Q q)⟩
theorem impPA {X : Cx} {es : List Expr} {t t' : TA} (h : PA X es t) (i : ∀ σ H Q, t' σ H Q → t σ H Q) : PA X es t' := ⟨fun p pins s σ H Q I q => h.run p pins s σ H Q I (i σ H Q q)⟩
theorem impPS {X : Cx} {st : Stmt} {t t' : TS} (h : PS X st t) (i : ∀ D σ H, t' D σ H → t D σ H) : PS X st t' := ⟨fun pins s σ H D I q => h.run pins s σ H D I (i D σ H q)⟩
theorem impPSs {X : Cx} {st : List Stmt} {t t' : TS} (h : PSs X st t) (i : ∀ D σ H, t' D σ H → t D σ H) : PSs X st t' := ⟨fun pins s σ H D I q => h.run pins s σ H D I (i D σ H q)⟩
theorem impOpR {X : Cx} {f : Value → Value → Sem Value} {r r' : R2} (h : OpR X f r) (i : ∀ x y H Q, r' x y H Q → r x y H Q) : OpR X f r' := fun pins s σ H x y v u Q I rx ry q => h pins s σ H x y v u Q I rx ry (i x y H Q q)
theorem impCallR {X : Cx} {f : Value} {r r' : List V → Hp → VK → Prop} (h : CallR X f r) (i : ∀ xs H Q, r' xs H Q → r xs H Q) : CallR X f r' := fun pins s σ H xs us Q I rx q => h pins s σ H xs us Q I rx (i xs H Q q)
/-- an exception further on -/
theorem wX.ext {mg : Str → Option Value} {W : WX} {T : Option Addr} {F H F1 H1 : Hp} {σ : L2.St} {e : Str} {τ1 τ' : Tin} (x : Ext T F H F1 H1 τ1) (h : wX mg W T F H σ e τ') : wX mg W T F1 H1 σ e τ' :=
  fun F' H' cl y m => h F' H' cl (x.trans y) m
section
variable {X : Cx} {W : WX} {m : Bool} {e : Expr} {es : List Expr} {f : Env → M D}
theorem topD (h : DE X W m e f) : DE X W true e f := impPE h fun σ H Q ⟨T, F, ρ, τ, s, q⟩ =>
  ⟨T, F, ρ, τ, s, wpR_mono q (fun d τ' q v F' H' x r => q v F' H' x r.top) fun _ _ z => z⟩
end
end DL
end

section
set_option Elab.async false
set_option linter.all false
set_option maxRecDepth 100000
set_option maxHeartbeats 2000000
/-! DLB: expressions over data -/
namespace DL
open PySem PySem.Spec PyProof.Rows L2
section
variable {κ : Kc} {mg : Str → Option Value} {W : WX} {m : Bool} {T : Option Addr} {F H F1 H1 : Hp} {σ : L2.St} {ρ : Env} {τ τ1 : Tin} {α : Type}
theorem tD_mono {f : Env → M D} {Q Q' : VK} (h : tD κ mg W m f σ H Q) (i : ∀ v H, Q v H → Q' v H) : tD κ mg W m f σ H Q' := by
  obtain ⟨T, F, ρ, τ, s, q⟩ := h
  exact ⟨T, F, ρ, τ, s, wpR_mono q (fun d τ' q v F' H' x r => i _ _ (q v F' H' x r)) fun _ _ z => z⟩
theorem tDs_mono {f : Env → M (List D)} {Q Q' : List V → Hp → Prop} (h : tDs κ mg W m f σ H Q) (i : ∀ v H, Q v H → Q' v H) : tDs κ mg W m f σ H Q' := by
  obtain ⟨T, F, ρ, τ, s, q⟩ := h
  exact ⟨T, F, ρ, τ, s, wpR_mono q (fun d τ' q v F' H' x r => i _ _ (q v F' H' x r)) fun _ _ z => z⟩
theorem tDT_mono {f : Env → M Bool} {Q Q' : Bool → Hp → Prop} (h : tDT κ mg W f σ H Q) (i : ∀ v H, Q v H → Q' v H) : tDT κ mg W f σ H Q' := by
  obtain ⟨T, F, ρ, τ, s, q⟩ := h
  exact ⟨T, F, ρ, τ, s, wpR_mono q (fun d τ' q F' H' x => i _ _ (q F' H' x)) fun _ _ z => z⟩
/-- the first of two pieces runs; what is left of the second -/
theorem tD_of {f : Env → M D} {k : D → M α} {P : α → Tin → Prop} (s : SR κ T F1 H1 σ ρ τ1) (x : Ext T F H F1 H1 τ1) (h : wpR (M.bind (f ρ) k τ1) P (wX mg W T F H σ)) :
    tD κ mg W m f σ H1 (fun v H2 => ∃ F2 τ2 d, Ext T F H F2 H2 τ2 ∧ Ext T F1 H1 F2 H2 τ2 ∧ SR κ T F2 H2 σ ρ τ2 ∧ RepM m κ T F2 H2 v d ∧ wpR (k d τ2) P (wX mg W T F H σ)) :=
  ⟨T, F1, ρ, τ1, s, wpR_mono (wpR_bind h) (fun d τ2 q v F2 H2 y r => ⟨F2, τ2, d, x.trans y, y, s.ext y, r, q⟩) fun _ _ z => z.ext x⟩
theorem tDs_of {f : Env → M (List D)} {k : List D → M α} {P : α → Tin → Prop} (s : SR κ T F1 H1 σ ρ τ1) (x : Ext T F H F1 H1 τ1) (h : wpR (M.bind (f ρ) k τ1) P (wX mg W T F H σ)) :
    tDs κ mg W m f σ H1 (fun v H2 => ∃ F2 τ2 d, Ext T F H F2 H2 τ2 ∧ Ext T F1 H1 F2 H2 τ2 ∧ SR κ T F2 H2 σ ρ τ2 ∧ RepMs m κ T F2 H2 v d ∧ wpR (k d τ2) P (wX mg W T F H σ)) :=
  ⟨T, F1, ρ, τ1, s, wpR_mono (wpR_bind h) (fun d τ2 q v F2 H2 y r => ⟨F2, τ2, d, x.trans y, y, s.ext y, r, q⟩) fun _ _ z => z.ext x⟩
theorem tDT_of {f : Env → M Bool} {k : Bool → M α} {P : α → Tin → Prop} (s : SR κ T F1 H1 σ ρ τ1) (x : Ext T F H F1 H1 τ1) (h : wpR (M.bind (f ρ) k τ1) P (wX mg W T F H σ)) :
    tDT κ mg W f σ H1 (fun b H2 => ∃ F2 τ2, Ext T F H F2 H2 τ2 ∧ Ext T F1 H1 F2 H2 τ2 ∧ SR κ T F2 H2 σ ρ τ2 ∧ wpR (k b τ2) P (wX mg W T F H σ)) :=
  ⟨T, F1, ρ, τ1, s, wpR_mono (wpR_bind h) (fun b τ2 q F2 H2 y => ⟨F2, τ2, x.trans y, y, s.ext y, q⟩) fun _ _ z => z.ext x⟩
/-- the last piece: its end is the whole's end -/
theorem tD_fin {f : Env → M D} {Q : VK} (s : SR κ T F1 H1 σ ρ τ1) (x : Ext T F H F1 H1 τ1)
    (h : wpR (f ρ τ1) (fun d τ' => ∀ v F' H', Ext T F H F' H' τ' → RepM m κ T F' H' v d → Q v H') (wX mg W T F H σ)) : tD κ mg W m f σ H1 Q :=
  ⟨T, F1, ρ, τ1, s, wpR_mono h (fun d τ2 q v F2 H2 y r => q v F2 H2 (x.trans y) r) fun _ _ z => z.ext x⟩
theorem tDs_fin {f : Env → M (List D)} {Q : List V → Hp → Prop} (s : SR κ T F1 H1 σ ρ τ1) (x : Ext T F H F1 H1 τ1)
    (h : wpR (f ρ τ1) (fun d τ' => ∀ v F' H', Ext T F H F' H' τ' → RepMs m κ T F' H' v d → Q v H') (wX mg W T F H σ)) : tDs κ mg W m f σ H1 Q :=
  ⟨T, F1, ρ, τ1, s, wpR_mono h (fun d τ2 q v F2 H2 y r => q v F2 H2 (x.trans y) r) fun _ _ z => z.ext x⟩
theorem tDT_fin {f : Env → M Bool} {Q : Bool → Hp → Prop} (s : SR κ T F1 H1 σ ρ τ1) (x : Ext T F H F1 H1 τ1)
    (h : wpR (f ρ τ1) (fun b τ' => ∀ F' H', Ext T F H F' H' τ' → Q b H') (wX mg W T F H σ)) : tDT κ mg W f σ H1 Q :=
  ⟨T, F1, ρ, τ1, s, wpR_mono h (fun d τ2 q F2 H2 y => q F2 H2 (x.trans y)) fun _ _ z => z.ext x⟩
end

/-! ### names, constants -/
def dVar (i : Nat) : Env → M D := fun ρ => match ρ[i]? with
  | some (.d d) => M.pure d
  | _ => M.no
def dTop (i : Nat) : Env → M D := fun ρ => match ρ[i]? with
  | some (.d d) => M.pure d
  | some (.own xs) => M.pure (.lst xs)
  | _ => M.no
def dC (d : D) : Env → M D := fun _ => M.pure d
section
variable {X : Cx} {W : WX} {m : Bool} {a b c e : Expr} {es rest : List Expr} {fa fb fc : Env → M D} {fs gs : Env → M (List D)} {ft fu : Env → M Bool} {pos : Pos}
theorem de_of_c {d : D} {v : V} (h : PE X e (tC v)) (r : ∀ T F, Rep (kc X) T F v d) : DE X W m e (dC d) := impPE h fun σ H Q ⟨T, F, ρ, τ, s, q⟩ => by
  have q : ∀ v F' H', Ext T F H F' H' τ → RepM m (kc X) T F' H' v d → Q v H' := q
  exact q v F H s.bs.refl (repM (r T F))
theorem de_int {i : Int} {j} : DE X W m (.Constant (.int i) j pos) (dC (.int i)) := de_of_c pe_int fun _ _ => .int i
theorem de_bl {i : Bool} {j} : DE X W m (.Constant (.bool i) j pos) (dC (.bl i)) := de_of_c pe_bl fun _ _ => .bl i
theorem de_non {j} : DE X W m (.Constant .none j pos) (dC .non) := de_of_c pe_non fun _ _ => .non
theorem de_str {x : Str} {j} : DE X W m (.Constant (.str x) j pos) (dC (.str x)) := de_of_c pe_str fun _ _ => .str x
theorem de_glob {x : Str} {v : V} {d : D} {u : Value} (hg : Gl X x) (hm : X.mg x = some u) (r : RelV v u) (q : ∀ T F, Rep (kc X) T F v d) (hd : (x == ("__debug__" : Str)) = false := by decide) : DE X W m (.Name x pos) (dC d) :=
  de_of_c (pe_glob hg hm r hd) q
theorem de_var (i : Nat) {x : Str} (hN : X.N[i]? = some x := by rfl) (hv : Vis X.env.scope x := by first | exact Or.inl rfl | exact Or.inr (Or.inl rfl) | exact Or.inr (Or.inr rfl)) (hd : (x == ("__debug__" : Str)) = false := by decide)
    (hcd : (x == ("__classdict__" : Str)) = false := by decide) : DE X W m (.Name x pos) (dVar i) := impPE (pe_var hN hv hd hcd) fun σ H Q ⟨T, F, ρ, τ, s, q⟩ => by
  unfold dVar at q
  cases hs : ρ[i]? with
  | none => rw [hs] at q; exact q.elim
  | some u =>
    rw [hs] at q
    cases u with
    | d d =>
      obtain ⟨v, hv, x, rfl, r⟩ := s.slot i _ hs
      exact ⟨x, hv, q x F H s.bs.refl (repM r)⟩
    | _ => exact q.elim
theorem de_top (i : Nat) {x : Str} (hN : X.N[i]? = some x := by rfl) (hv : Vis X.env.scope x := by first | exact Or.inl rfl | exact Or.inr (Or.inl rfl) | exact Or.inr (Or.inr rfl)) (hd : (x == ("__debug__" : Str)) = false := by decide)
    (hcd : (x == ("__classdict__" : Str)) = false := by decide) : DE X W true (.Name x pos) (dTop i) := impPE (pe_var hN hv hd hcd) fun σ H Q ⟨T, F, ρ, τ, s, q⟩ => by
  unfold dTop at q
  cases hs : ρ[i]? with
  | none => rw [hs] at q; exact q.elim
  | some u =>
    rw [hs] at q
    cases u with
    | d d =>
      obtain ⟨v, hv, x, rfl, r⟩ := s.slot i _ hs
      exact ⟨x, hv, q x F H s.bs.refl (repM r)⟩
    | own ds =>
      obtain ⟨v, hv, a, vs, rfl, h2, h3, h4, h5⟩ := s.slot i _ hs
      exact ⟨_, hv, q _ F H s.bs.refl (.inr ⟨a, vs, ds, rfl, rfl, h2, h4, h5⟩)⟩
    | un => exact q.elim

/-! ### operators -/
/-- an operator on data -/
def rD2 (κ : Kc) (g : D → D → Option D) : R2 := fun x y H Q => ∃ T F τ d e, Bs T F H τ ∧ RepTop κ T F H x d ∧ RepTop κ T F H y e ∧
  ∃ r, g d e = some r ∧ ∀ v F' H', Ext T F H F' H' τ → Rep κ T F' v r → Q v H'
def dOp (g : D → D → Option D) (fa fb : Env → M D) : Env → M D := fun ρ => M.bind (fa ρ) fun x => M.bind (fb ρ) fun y => M.lift (g x y)
theorem tOp_of {g : D → D → Option D} {σ : L2.St} {H : Hp} {Q : VK} (q : tD (kc X) X.mg W m (dOp g fa fb) σ H Q) :
    tOp (rD2 (kc X) g) (tD (kc X) X.mg W true fa) (tD (kc X) X.mg W true fb) σ H Q := by
  obtain ⟨T, F, ρ, τ, s, q⟩ := q
  refine tD_mono (tD_of s s.bs.refl q) fun x H1 ⟨F1, τ1, d, x1, y1, s1, r1, q1⟩ => ?_
  refine tD_mono (tD_of s1 x1 q1) fun y H2 ⟨F2, τ2, e, x2, y2, s2, r2, q2⟩ => ?_
  obtain ⟨r, e1, q3⟩ := wpR_lift q2
  exact ⟨T, F2, τ2, d, e, s2.bs, r1.top.ext y2, r2.top, r, e1, fun v F' H' x3 rv => q3 v F' H' (x2.trans x3) (repM rv)⟩
theorem de_op {op : Operator} {g : D → D → Option D} (ho : OpR X (binaryOp op) (rD2 (kc X) g)) (ha : DE X W true a fa) (hb : DE X W true b fb) : DE X W m (.BinOp a op b pos) (dOp g fa fb) :=
  impPE (pe_op ho ha hb) fun σ H Q q => tOp_of q
theorem de_cmp {op : CmpOp} {g : D → D → Option D} (ho : OpR X (compareOp op) (rD2 (kc X) g)) (ha : DE X W true a fa) (hb : DE X W true b fb) (hm : behindInMarks op b = false) : DE X W m (.Compare a [op] [b] pos) (dOp g fa fb) :=
  impPE (pe_cmpR ho ha hb hm) fun σ H Q q => tOp_of q
def toB : D → M Bool
  | .bl b => M.pure b
  | _ => M.no
def dB (f : Env → M D) : Env → M Bool := fun ρ => M.bind (f ρ) toB
theorem dB_of {f : Env → M D} {σ : L2.St} {H : Hp} {Q : Bool → Hp → Prop} (q : tDT (kc X) X.mg W (dB f) σ H Q) : tD (kc X) X.mg W false f σ H fun x H' => ∃ k, x = .bl k ∧ Q k H' := by
  obtain ⟨T, F, ρ, τ, s, q⟩ := q
  refine tD_mono (tD_of (m := false) s s.bs.refl q) fun x H1 ⟨F1, τ1, d, x1, y1, s1, r1, q1⟩ => ?_
  cases r1 with
  | bl b => exact ⟨b, rfl, q1 F1 H1 x1⟩
  | _ => exact q1.elim
theorem dt_cmp {op : CmpOp} {g : D → D → Option D} (ho : OpR X (compareOp op) (rD2 (kc X) g)) (ha : DE X W true a fa) (hb : DE X W true b fb) (hm : behindInMarks op b = false) : DT X W (.Compare a [op] [b] pos) (dB (dOp g fa fb)) :=
  impPT (pt_cmpR ho ha hb hm) fun σ H Q q => tOp_of (dB_of q)
theorem dt_val (h : DE X W false e fa) (he : ∀ whole, isTrue e X.env whole = (do let v ← whole; standAt e.pos; holding [v] (truthy v)) := by intro _; rfl) : DT X W e (dB fa) :=
  impPT (pt_val h he) fun σ H Q q => dB_of q
def dChain (g g' : D → D → Option D) (fa fb fc : Env → M D) : Env → M D := fun ρ => M.bind (fa ρ) fun x => M.bind (fb ρ) fun y => M.bind (M.lift (g x y)) fun r => M.bind (toB r) fun k =>
  if k = true then M.bind (fc ρ) fun z => M.lift (g' y z) else M.pure (.bl false)
theorem tChain_of {g g' : D → D → Option D} {σ : L2.St} {H : Hp} {Q : VK} (q : tD (kc X) X.mg W m (dChain g g' fa fb fc) σ H Q) :
    tChain (rD2 (kc X) g) (rD2 (kc X) g') (tD (kc X) X.mg W true fa) (tD (kc X) X.mg W true fb) (tD (kc X) X.mg W true fc) σ H Q := by
  obtain ⟨T, F, ρ, τ, s, q⟩ := q
  refine tD_mono (tD_of s s.bs.refl q) fun x H1 ⟨F1, τ1, d, x1, y1, s1, r1, q1⟩ => ?_
  refine tD_mono (tD_of s1 x1 q1) fun y H2 ⟨F2, τ2, e, x2, y2, s2, r2, q2⟩ => ?_
  obtain ⟨r, e1, q3⟩ := wpR_lift (wpR_bind q2)
  refine ⟨T, F2, τ2, d, e, s2.bs, r1.top.ext y2, r2.top, r, e1, fun v F3 H3 x3 rv => ?_⟩
  have q4 := wpR_bind q3
  cases rv with
  | bl k =>
    have q5 : wpR ((if k = true then M.bind (fc ρ) fun z => M.lift (g' e z) else M.pure (.bl false)) τ2) _ _ := q4
    refine ⟨k, rfl, ?_⟩
    cases k with
    | false =>
      exact q5 _ F3 H3 (x2.trans x3) (repM (.bl false))
    | true =>
      refine tD_mono (tD_of (s2.ext x3) (x2.trans x3) q5) fun z H4 ⟨F4, τ4, d4, x4, y4, s4, r4, q6⟩ => ?_
      obtain ⟨r5, e5, q7⟩ := wpR_lift q6
      exact ⟨T, F4, τ4, e, d4, s4.bs, (r2.top.ext x3).ext y4, r4.top, r5, e5, fun v F' H' x5 rv => q7 v F' H' (x4.trans x5) (repM rv)⟩
  | _ => exact q4.elim
theorem de_chain {op op' : CmpOp} {g g' : D → D → Option D} (ho : OpR X (compareOp op) (rD2 (kc X) g)) (ho' : OpR X (compareOp op') (rD2 (kc X) g')) (ha : DE X W true a fa) (hb : DE X W true b fb) (hc : DE X W true c fc)
    (hm : lastMarks [op, op'] [b, c] = false := by with_unfolding_all rfl) : DE X W m (.Compare a [op, op'] [b, c] pos) (dChain g g' fa fb fc) :=
  impPE (pe_chain ho ho' ha hb hc hm) fun σ H Q q => tChain_of q
theorem dt_chain {op op' : CmpOp} {g g' : D → D → Option D} (ho : OpR X (compareOp op) (rD2 (kc X) g)) (ho' : OpR X (compareOp op') (rD2 (kc X) g')) (ha : DE X W true a fa) (hb : DE X W true b fb) (hc : DE X W true c fc)
    (hm : lastMarks [op, op'] [b, c] = false := by with_unfolding_all rfl) : DT X W (.Compare a [op, op'] [b, c] pos) (dB (dChain g g' fa fb fc)) :=
  impPT (pt_chain ho ho' ha hb hc hm) fun σ H Q q => tChain_of (dB_of q)

/-! ### and, or, not, if -/
def bAnd (ft fu : Env → M Bool) : Env → M Bool := fun ρ => M.bind (ft ρ) fun c => if c = true then fu ρ else M.pure false
def bOr (ft fu : Env → M Bool) : Env → M Bool := fun ρ => M.bind (ft ρ) fun c => if c = true then M.pure true else fu ρ
def bNot (ft : Env → M Bool) : Env → M Bool := fun ρ => M.bind (ft ρ) fun c => M.pure (!c)
theorem dw_and1 (ha : DT X W a ft) : DW X W (.BoolOp .And [a] pos) ft := pw_and1 ha
theorem dw_or1 (ha : DT X W a ft) : DW X W (.BoolOp .Or [a] pos) ft := pw_or1 ha
theorem dw_and (ha : DT X W a ft) (hb : DW X W (.BoolOp .And (b :: rest) pos) fu) : DW X W (.BoolOp .And (a :: b :: rest) pos) (bAnd ft fu) :=
  impPW (pw_and ha hb) fun σ H Q ⟨T, F, ρ, τ, s, q⟩ => by
    refine tDT_mono (tDT_of s s.bs.refl q) fun c H1 ⟨F1, τ1, x1, y1, s1, q1⟩ => ?_
    cases c with
    | true => exact tDT_fin s1 x1 q1
    | false => exact q1 F1 H1 x1
theorem dw_or (ha : DT X W a ft) (hb : DW X W (.BoolOp .Or (b :: rest) pos) fu) : DW X W (.BoolOp .Or (a :: b :: rest) pos) (bOr ft fu) :=
  impPW (pw_or ha hb) fun σ H Q ⟨T, F, ρ, τ, s, q⟩ => by
    refine tDT_mono (tDT_of s s.bs.refl q) fun c H1 ⟨F1, τ1, x1, y1, s1, q1⟩ => ?_
    cases c with
    | false => exact tDT_fin s1 x1 q1
    | true => exact q1 F1 H1 x1
theorem dt_not (ha : DT X W a ft) : DT X W (.UnaryOp .Not a pos) (bNot ft) :=
  impPT (pt_not ha) fun σ H Q ⟨T, F, ρ, τ, s, q⟩ => tDT_mono (tDT_of s s.bs.refl q) fun c H1 ⟨F1, τ1, x1, y1, s1, q1⟩ => q1 F1 H1 x1
def dAnd (fa fb : Env → M D) : Env → M D := fun ρ => M.bind (fa ρ) fun x => M.bind (toB x) fun c => if c = true then fb ρ else M.pure (.bl false)
def dOr (fa fb : Env → M D) : Env → M D := fun ρ => M.bind (fa ρ) fun x => M.bind (toB x) fun c => if c = true then M.pure (.bl true) else fb ρ
def dNot (fa : Env → M D) : Env → M D := fun ρ => M.bind (fa ρ) fun x => M.bind (toB x) fun c => M.pure (.bl (!c))
theorem de_one {op} (h : DE X W m a fa) : DE X W m (.BoolOp op [a] pos) fa := pe_one h
theorem de_and (ha : DE X W false a fa) (hb : DE X W m (.BoolOp .And (b :: rest) pos) fb) : DE X W m (.BoolOp .And (a :: b :: rest) pos) (dAnd fa fb) :=
  impPE (pe_and ha hb) fun σ H Q ⟨T, F, ρ, τ, s, q⟩ => by
    refine tD_mono (tD_of (m := false) s s.bs.refl q) fun x H1 ⟨F1, τ1, d, x1, y1, s1, r1, q1⟩ => ?_
    cases r1 with
    | bl c =>
      refine ⟨c, rfl, ?_⟩
      cases c with
      | true => exact tD_fin s1 x1 q1
      | false => exact q1 _ F1 H1 x1 (repM (.bl false))
    | _ => exact q1.elim
theorem de_or (ha : DE X W false a fa) (hb : DE X W m (.BoolOp .Or (b :: rest) pos) fb) : DE X W m (.BoolOp .Or (a :: b :: rest) pos) (dOr fa fb) :=
  impPE (pe_or ha hb) fun σ H Q ⟨T, F, ρ, τ, s, q⟩ => by
    refine tD_mono (tD_of (m := false) s s.bs.refl q) fun x H1 ⟨F1, τ1, d, x1, y1, s1, r1, q1⟩ => ?_
    cases r1 with
    | bl c =>
      refine ⟨c, rfl, ?_⟩
      cases c with
      | false => exact tD_fin s1 x1 q1
      | true => exact q1 _ F1 H1 x1 (repM (.bl true))
    | _ => exact q1.elim
theorem de_not (ha : DE X W false a fa) : DE X W m (.UnaryOp .Not a pos) (dNot fa) :=
  impPE (pe_not ha) fun σ H Q ⟨T, F, ρ, τ, s, q⟩ => by
    refine tD_mono (tD_of (m := false) s s.bs.refl q) fun x H1 ⟨F1, τ1, d, x1, y1, s1, r1, q1⟩ => ?_
    cases r1 with
    | bl c => exact ⟨c, rfl, q1 _ F1 H1 x1 (repM (.bl _))⟩
    | _ => exact q1.elim
def dIf (ft : Env → M Bool) (fa fb : Env → M D) : Env → M D := fun ρ => M.bind (ft ρ) fun c => if c = true then fa ρ else fb ρ
theorem de_if (hc : DT X W c ft) (ha : DE X W m a fa) (hb : DE X W m b fb) : DE X W m (.IfExp c a b pos) (dIf ft fa fb) :=
  impPE (pe_ifExp hc ha hb) fun σ H Q ⟨T, F, ρ, τ, s, q⟩ => by
    refine tDT_mono (tDT_of s s.bs.refl q) fun c H1 ⟨F1, τ1, x1, y1, s1, q1⟩ => ?_
    cases c with
    | true => exact tD_fin s1 x1 q1
    | false => exact tD_fin s1 x1 q1

/-! ### argument lists, displays -/
def aNil : Env → M (List D) := fun _ => M.pure []
def aCons (fa : Env → M D) (fs : Env → M (List D)) : Env → M (List D) := fun ρ => M.bind (fa ρ) fun x => M.bind (fs ρ) fun xs => M.pure (x :: xs)
def itemsD : D → Option (List D)
  | .tup xs => some xs
  | .lst xs => some xs
  | _ => none
def aStar (fa : Env → M D) (fs : Env → M (List D)) : Env → M (List D) := fun ρ => M.bind (fa ρ) fun x => M.bind (M.lift (itemsD x)) fun ys => M.bind (fs ρ) fun xs => M.pure (ys ++ xs)
theorem da_nil : DA X W m [] aNil := impPA pa_nil fun σ H Q ⟨T, F, ρ, τ, s, q⟩ => by
  have q : ∀ vs F' H', Ext T F H F' H' τ → RepMs m (kc X) T F' H' vs [] → Q vs H' := q
  exact q [] F H s.bs.refl .nil
theorem da_cons (ha : DE X W m e fa) (hr : DA X W m es fs) (hs : starEach (e :: es) X.env = (false, eval e X.env) :: starEach es X.env := by rfl) : DA X W m (e :: es) (aCons fa fs) :=
  impPA (pa_cons ha hr hs) fun σ H Q ⟨T, F, ρ, τ, s, q⟩ => by
    refine tD_mono (tD_of s s.bs.refl q) fun x H1 ⟨F1, τ1, d, x1, y1, s1, r1, q1⟩ => ?_
    refine tDs_mono (tDs_of s1 x1 q1) fun xs H2 ⟨F2, τ2, ds, x2, y2, s2, r2, q2⟩ => ?_
    exact q2 _ F2 H2 x2 (.cons (r1.ext y2) r2)
theorem RepMs.append {κ : Kc} {T : Option Addr} {F H : Hp} {m : Bool} : ∀ {vs ws : List V} {ds es : List D}, RepAll κ T F vs ds → RepMs m κ T F H ws es → RepMs m κ T F H (vs ++ ws) (ds ++ es)
  | _, _, _, _, .nil, s => s
  | _, _, _, _, .cons r t, s => .cons (repM r) (RepMs.append t s)
theorem da_star {p : Pos} (ha : DE X W true e fa) (hr : DA X W m es fs) (hs : starEach (.Starred e p :: es) X.env = (true, eval e X.env) :: starEach es X.env := by rfl) : DA X W m (.Starred e p :: es) (aStar fa fs) :=
  impPA (StX.pa_star ha hr hs) fun σ H Q ⟨T, F, ρ, τ, s, q⟩ => by
    refine tD_mono (tD_of (m := true) s s.bs.refl q) fun x H1 ⟨F1, τ1, d, x1, y1, s1, r1, q1⟩ => ?_
    obtain ⟨ys, e1, q2⟩ := wpR_lift (wpR_bind q1)
    have go : ∀ (a : Addr) (vs : List V), SqT X.K H1 a vs ∨ SqL X.K H1 a vs → RepAll (kc X) T F1 vs ys → x = .ref a →
        ∃ (a : Addr) (xs : List V), x = V.ref a ∧ (SqT X.K H1 a xs ∨ SqL X.K H1 a xs) ∧ tDs (kc X) X.mg W m fs σ H1 fun vs H2 => Q (xs ++ vs) H2 := fun a vs hq rv ex => by
      refine ⟨a, vs, ex, hq, tDs_mono (tDs_of s1 x1 q2) fun xs H2 ⟨F2, τ2, ds, x2, y2, s2, r2, q3⟩ => ?_⟩
      exact q3 _ F2 H2 x2 (RepMs.append (rv.mono y2.le) r2)
    cases d with
    | tup ds =>
      cases e1
      obtain ⟨a, vs, ex, hq, rv⟩ := RepTop.tup r1
      exact go a vs (.inl (seqT s1.bs.le hq)) rv ex
    | lst ds =>
      cases e1
      obtain ⟨a, vs, ex, hq, rv⟩ := RepTop.lst r1 s1.bs.le
      exact go a vs (.inr (SqL.of hq)) rv ex
    | _ => cases e1
def fits (xs : List D) : Bool := decide (xs.length ≤ sizeLine)
def dTup (fs : Env → M (List D)) : Env → M D := fun ρ => M.bind (fs ρ) fun xs => if fits xs = true then M.pure (.tup xs) else M.no
def dLst (fs : Env → M (List D)) : Env → M D := fun ρ => M.bind (fs ρ) fun xs => if fits xs = true then M.pure (.lst xs) else M.no
theorem fits_le {xs : List D} (h : fits xs = true) : xs.length ≤ sizeLine := of_decide_eq_true h
theorem de_tup {k} (h : DA X W false es fs) : DE X W m (.Tuple es k pos) (dTup fs) :=
  impPE (pe_tup h) fun σ H Q ⟨T, F, ρ, τ, s, q⟩ => by
    refine tDs_mono (tDs_of (m := false) s s.bs.refl q) fun xs H1 ⟨F1, τ1, ds, x1, y1, s1, r1, q1⟩ => ?_
    split at q1
    · rename_i hf
      refine ⟨by rw [r1.length]; exact fits_le hf, fun p hp => ?_⟩
      have x2 := s1.bs.push (o := .tup xs) hp
      exact q1 _ _ _ (x1.trans x2) (repM (.tup (SqT.of upd_same) (r1.all.mono x2.le)))
    · exact q1.elim
theorem de_lst (h : DA X W false es fs) : DE X W m (.List es pos) (dLst fs) :=
  impPE (pe_lst h) fun σ H Q ⟨T, F, ρ, τ, s, q⟩ => by
    refine tDs_mono (tDs_of (m := false) s s.bs.refl q) fun xs H1 ⟨F1, τ1, ds, x1, y1, s1, r1, q1⟩ => ?_
    split at q1
    · rename_i hf
      refine ⟨by rw [r1.length]; exact fits_le hf, fun p hp => ?_⟩
      have x2 := s1.bs.push (o := .lst xs) hp
      exact q1 _ _ _ (x1.trans x2) (repM (.lst upd_same (r1.all.mono x2.le)))
    · exact q1.elim
end
end DL
end

section
set_option Elab.async false
set_option linter.all false
set_option maxRecDepth 100000
set_option maxHeartbeats 2000000
/-! DLC: operators on data -/
namespace DL
open PySem PySem.Spec PyProof.Rows L2
mutual
def toP : D → Option PyData
  | .non => some .none
  | .bl b => some (.bool b)
  | .int i => some (.int i)
  | .str x => some (.str x)
  | .tup xs => (toPs xs).map .tuple
  | .lst xs => (toPs xs).map .list
  | .scr _ => none
  | .tin => none
  | .dct _ => none
def toPs : List D → Option (List PyData)
  | [] => some []
  | x :: xs => match toP x, toPs xs with
    | some p, some ps => some (p :: ps)
    | _, _ => none
end
section
variable {κ : Kc} {T : Option Addr} {F : Hp}
mutual
theorem Rep.dp : ∀ {v : V} {d : D} {p : PyData}, Rep κ T F v d → toP d = some p → Dp κ.K F v p
  | _, _, _, .non, h => by cases h; exact .non
  | _, _, _, .bl b, h => by cases h; exact .bl b
  | _, _, _, .int b, h => by cases h; exact .int b
  | _, _, _, .str b, h => by cases h; exact .str b
  | _, .tup ds, p, .tup s r, h => by
    rw [toP] at h
    cases e : toPs ds with
    | none => rw [e] at h; cases h
    | some ps => rw [e] at h; cases h; exact .tup s (RepAll.dp r e)
  | _, .lst ds, p, .lst s r, h => by
    rw [toP] at h
    cases e : toPs ds with
    | none => rw [e] at h; cases h
    | some ps => rw [e] at h; cases h; exact .lst (SqL.of s) (RepAll.dp r e)
  | _, _, _, .scr s, h => by rw [toP] at h; cases h
  | _, _, _, .tin s, h => by rw [toP] at h; cases h
  | _, _, _, .dct s, h => by rw [toP] at h; cases h
theorem RepAll.dp : ∀ {vs : List V} {ds : List D} {ps : List PyData}, RepAll κ T F vs ds → toPs ds = some ps → DpAll κ.K F vs ps
  | _, _, _, .nil, h => by cases h; exact .nil
  | _, d :: ds, ps, .cons r t, h => by
    rw [toPs] at h
    cases e : toP d with
    | none => rw [e] at h; cases h
    | some p =>
      cases e2 : toPs ds with
      | none => rw [e, e2] at h; cases h
      | some qs => rw [e, e2] at h; cases h; exact .cons (Rep.dp r e) (RepAll.dp t e2)
end
end
/-- how deep two data may lie to be compared -/
def deepest : Nat := 150
def okP (p q : PyData) : Bool := p.canLay0 && q.canLay0 && decide (min p.depth q.depth ≤ deepest)
def eqB (d e : D) : Option Bool := match toP d, toP e with
  | some p, some q => if okP p q = true then some (PyData.eqv p q) else none
  | _, _ => none
def eqD (d e : D) : Option D := (eqB d e).map .bl
def neD (d e : D) : Option D := (eqB d e).map fun b => .bl (!b)
def okIn (xs : List PyData) (d : PyData) : Bool := PyData.canLayAll0 xs && d.canLay0 && decide (min (PyData.depthAll xs) d.depth ≤ deepest)
def inL (d : D) (es : List D) : Option Bool := match toP d, toPs es with
  | some p, some ps => if okIn ps p = true then some (ps.any fun y => PyData.eqv y p) else none
  | _, _ => none
def inB (d : D) (e : D) : Option Bool := match itemsD e with
  | some es => inL d es
  | none => none
def inD (d e : D) : Option D := (inB d e).map .bl
def ninD (d e : D) : Option D := (inB d e).map fun b => .bl (!b)

section
variable {X : Cx} {T : Option Addr} {F H : Hp} {τ : Tin} {x y : V} {d e : D} {Q : VK}
theorem eqB_of {b : Bool} (h : eqB d e = some b) : ∃ p q, toP d = some p ∧ toP e = some q ∧ p.canLay0 = true ∧ q.canLay0 = true ∧ min p.depth q.depth ≤ deepest ∧ b = PyData.eqv p q := by
  unfold eqB at h
  cases e1 : toP d with
  | none => rw [e1] at h; cases h
  | some p =>
    cases e2 : toP e with
    | none => rw [e1, e2] at h; cases h
    | some q =>
      rw [e1, e2] at h
      have h : (if okP p q = true then some (PyData.eqv p q) else none) = some b := h
      split at h
      · rename_i hk
        unfold okP at hk
        simp only [Bool.and_eq_true, decide_eq_true_eq] at hk
        cases h
        exact ⟨p, q, rfl, rfl, hk.1.1, hk.1.2, hk.2, rfl⟩
      · cases h
theorem inB_of {b : Bool} (h : inB d e = some b) : ∃ es p ps, itemsD e = some es ∧ toP d = some p ∧ toPs es = some ps ∧ PyData.canLayAll0 ps = true ∧ p.canLay0 = true ∧ min (PyData.depthAll ps) p.depth ≤ deepest ∧ b = ps.any fun y => PyData.eqv y p := by
  unfold inB at h
  cases e0 : itemsD e with
  | none => rw [e0] at h; cases h
  | some es =>
    rw [e0] at h
    have h : inL d es = some b := h
    unfold inL at h
    cases e1 : toP d with
    | none => rw [e1] at h; cases h
    | some p =>
      cases e2 : toPs es with
      | none => rw [e1, e2] at h; cases h
      | some ps =>
        rw [e1, e2] at h
        have h : (if okIn ps p = true then some (ps.any fun y => PyData.eqv y p) else none) = some b := h
        split at h
        · rename_i hk
          unfold okIn at hk
          simp only [Bool.and_eq_true, decide_eq_true_eq] at hk
          cases h
          exact ⟨es, p, ps, rfl, rfl, e2, hk.1.1, hk.1.2, hk.2, rfl⟩
        · cases h
theorem deepest_eq : deepest = 150 := rfl
theorem op_eqQ (hu : X.A.units + 200 < cLine) : OpR X (compareOp .Eq) (rD2 (kc X) eqD) := by
  intro pins s σ H x y v u Q I rx ry ⟨T, F, τ, d, e, b, rd, re, r, hr, k⟩
  unfold eqD at hr
  cases hb : eqB d e with
  | none => rw [hb] at hr; cases hr
  | some c =>
    rw [hb] at hr
    cases hr
    obtain ⟨p, q, e1, e2, c1, c2, dp, rfl⟩ := eqB_of hb
    obtain ⟨as, r1⟩ := Dp.reads I p x v ((rd.inH b.le).dp e1) rx
    obtain ⟨bs, r2⟩ := Dp.reads I q y u ((re.inH b.le).dp e2) ry
    rw [deepest_eq] at dp
    exact SeqAt.compareEq_reads r1 r2 c1 c2 (by omega) ⟨.bl _, H, I, rfl, k _ F H b.refl (.bl _)⟩
theorem op_neQ (hu : X.A.units + 200 < cLine) : OpR X (compareOp .NotEq) (rD2 (kc X) neD) := by
  intro pins s σ H x y v u Q I rx ry ⟨T, F, τ, d, e, b, rd, re, r, hr, k⟩
  unfold neD at hr
  cases hb : eqB d e with
  | none => rw [hb] at hr; cases hr
  | some c =>
    rw [hb] at hr
    cases hr
    obtain ⟨p, q, e1, e2, c1, c2, dp, rfl⟩ := eqB_of hb
    obtain ⟨as, r1⟩ := Dp.reads I p x v ((rd.inH b.le).dp e1) rx
    obtain ⟨bs, r2⟩ := Dp.reads I q y u ((re.inH b.le).dp e2) ry
    rw [deepest_eq] at dp
    exact SeqAt.compareNe_reads r1 r2 c1 c2 (by omega) ⟨.bl _, H, I, rfl, k _ F H b.refl (.bl _)⟩
/-- the list or tuple asked, read -/
theorem items_dp {es : List D} {ps : List PyData} (re : RepTop (kc X) T F H y e) (le : Same F H) (hi : itemsD e = some es) (hp : toPs es = some ps) : Dp X.K H y (.list ps) ∨ Dp X.K H y (.tuple ps) := by
  cases e with
  | tup ds =>
    cases hi
    refine .inr ((re.inH le).dp ?_)
    rw [toP, hp]; rfl
  | lst ds =>
    cases hi
    refine .inl ((re.inH le).dp ?_)
    rw [toP, hp]; rfl
  | _ => cases hi
theorem op_inQ (hu : X.A.units + 200 < cLine) : OpR X (compareOp .In) (rD2 (kc X) inD) := by
  intro pins s σ H x y v u Q I rx ry ⟨T, F, τ, d, e, b, rd, re, r, hr, k⟩
  unfold inD at hr
  cases hb : inB d e with
  | none => rw [hb] at hr; cases hr
  | some c =>
    rw [hb] at hr
    cases hr
    obtain ⟨es, p, ps, e0, e1, e2, c1, c2, dp, rfl⟩ := inB_of hb
    obtain ⟨as, r1⟩ := Dp.reads I p x v ((rd.inH b.le).dp e1) rx
    rw [deepest_eq] at dp
    rcases items_dp re b.le e0 e2 with q | q
    · obtain ⟨bs, r2⟩ := Dp.reads I _ y u q ry
      exact SeqAt.in_list_reads r2 r1 c1 c2 (by omega) ⟨.bl _, H, I, rfl, k _ F H b.refl (.bl _)⟩
    · obtain ⟨bs, r2⟩ := Dp.reads I _ y u q ry
      exact SeqAt.in_tuple_reads r2 r1 c1 c2 (by omega) ⟨.bl _, H, I, rfl, k _ F H b.refl (.bl _)⟩
theorem op_ninQ (hu : X.A.units + 200 < cLine) : OpR X (compareOp .NotIn) (rD2 (kc X) ninD) := by
  intro pins s σ H x y v u Q I rx ry ⟨T, F, τ, d, e, b, rd, re, r, hr, k⟩
  unfold ninD at hr
  cases hb : inB d e with
  | none => rw [hb] at hr; cases hr
  | some c =>
    rw [hb] at hr
    cases hr
    obtain ⟨es, p, ps, e0, e1, e2, c1, c2, dp, rfl⟩ := inB_of hb
    obtain ⟨as, r1⟩ := Dp.reads I p x v ((rd.inH b.le).dp e1) rx
    rw [deepest_eq] at dp
    rcases items_dp re b.le e0 e2 with q | q
    · obtain ⟨bs, r2⟩ := Dp.reads I _ y u q ry
      exact SeqAt.notIn_list_reads r2 r1 c1 c2 (by omega) ⟨.bl _, H, I, rfl, k _ F H b.refl (.bl _)⟩
    · obtain ⟨bs, r2⟩ := Dp.reads I _ y u q ry
      exact SeqAt.notIn_tuple_reads r2 r1 c1 c2 (by omega) ⟨.bl _, H, I, rfl, k _ F H b.refl (.bl _)⟩
end

/-! ### is None -/
def nonB : D → Bool
  | .non => true
  | _ => false
def isND (d e : D) : Option D := match e with
  | .non => some (.bl (nonB d))
  | _ => none
def isnND (d e : D) : Option D := match e with
  | .non => some (.bl (!nonB d))
  | _ => none
section
variable {X : Cx}
theorem rep_non {κ : Kc} {T : Option Addr} {F H : Hp} {x : V} {d : D} (r : RepTop κ T F H x d) : decide (x = .non) = nonB d := by
  rcases r with r | ⟨a, vs, ds, rfl, rfl, _⟩
  · cases r <;> rfl
  · rfl
theorem op_isQ : OpR X (compareOp .Is) (rD2 (kc X) isND) := impOpR op_isN fun x y H Q ⟨T, F, τ, d, e, b, rd, re, r, hr, k⟩ => by
  cases e with
  | non =>
    cases hr
    refine ⟨re.non, ?_⟩
    rw [rep_non rd]
    exact k _ F H b.refl (.bl _)
  | _ => cases hr
theorem op_isnQ : OpR X (compareOp .IsNot) (rD2 (kc X) isnND) := impOpR op_notN fun x y H Q ⟨T, F, τ, d, e, b, rd, re, r, hr, k⟩ => by
  cases e with
  | non =>
    cases hr
    refine ⟨re.non, ?_⟩
    rw [rep_non rd]
    exact k _ F H b.refl (.bl _)
  | _ => cases hr
end

/-! ### numbers -/
def iD (C : Int → Int → Bool) (g : Int → Int → D) : D → D → Option D
  | .int i, .int j => if C i j = true then some (g i j) else none
  | _, _ => none
def ltD : D → D → Option D := iD (fun _ _ => true) fun i j => .bl (decide (i < j))
def leD : D → D → Option D := iD (fun _ _ => true) fun i j => .bl (decide (i ≤ j))
def gtD : D → D → Option D := iD (fun _ _ => true) fun i j => .bl (decide (j < i))
def geD : D → D → Option D := iD (fun _ _ => true) fun i j => .bl (decide (j ≤ i))
def subD : D → D → Option D := iD (fun _ _ => true) fun i j => .int (i - j)
def small64 (i : Int) : Bool := decide (-(2 ^ 64) < i) && decide (i < 2 ^ 64)
def fdivD : D → D → Option D := iD (fun _ j => decide (0 < j) && decide (j < 1073741824)) fun i j => .int (i / j)
def modD : D → D → Option D := iD (fun _ j => decide (0 < j)) fun i j => .int (i % j)
def powD : D → D → Option D := iD (fun i j => decide (0 ≤ j) && decide (j ≤ 1000000) && decide (i.natAbs < 2 ^ 64)) fun i j => .int (i ^ j.toNat)
section
variable {X : Cx}
theorem iD_of {C : Int → Int → Bool} {g : Int → Int → D} {d e r : D} (h : iD C g d e = some r) : ∃ i j, d = .int i ∧ e = .int j ∧ C i j = true ∧ r = g i j := by
  unfold iD at h
  cases d with
  | int i =>
    cases e with
    | int j =>
      have h : (if C i j = true then some (g i j) else none) = some r := h
      split at h
      · rename_i hc
        cases h
        exact ⟨i, j, rfl, rfl, hc, rfl⟩
      · cases h
    | _ => cases h
  | _ => cases h
theorem op_i {f : Value → Value → Sem Value} {P : Int → Int → Prop} {C : Int → Int → Bool} {gV : Int → Int → V} {g : Int → Int → D} (h : OpR X f (rI P gV)) (hc : ∀ i j, C i j = true → P i j) (hg : ∀ T F i j, Rep (kc X) T F (gV i j) (g i j)) :
    OpR X f (rD2 (kc X) (iD C g)) := impOpR h fun x y H Q ⟨T, F, τ, d, e, b, rd, re, r, hr, k⟩ => by
  obtain ⟨i, j, rfl, rfl, c, rfl⟩ := iD_of hr
  exact ⟨i, j, rd.int, re.int, hc i j c, k _ F H b.refl (hg T F i j)⟩
theorem op_i0 {f : Value → Value → Sem Value} {gV : Int → Int → V} {g : Int → Int → D} (h : OpR X f (rI0 gV)) (hg : ∀ T F i j, Rep (kc X) T F (gV i j) (g i j)) :
    OpR X f (rD2 (kc X) (iD (fun _ _ => true) g)) := impOpR h fun x y H Q ⟨T, F, τ, d, e, b, rd, re, r, hr, k⟩ => by
  obtain ⟨i, j, rfl, rfl, c, rfl⟩ := iD_of hr
  exact ⟨i, j, rd.int, re.int, k _ F H b.refl (hg T F i j)⟩
theorem op_ltQ : OpR X (compareOp .Lt) (rD2 (kc X) ltD) := op_i0 op_lt fun _ _ _ _ => .bl _
theorem op_leQ : OpR X (compareOp .LtE) (rD2 (kc X) leD) := op_i0 op_le fun _ _ _ _ => .bl _
theorem op_gtQ : OpR X (compareOp .Gt) (rD2 (kc X) gtD) := op_i0 op_gt fun _ _ _ _ => .bl _
theorem op_geQ : OpR X (compareOp .GtE) (rD2 (kc X) geD) := op_i0 op_ge fun _ _ _ _ => .bl _
theorem op_subQ : OpR X (binaryOp .Sub) (rD2 (kc X) subD) := op_i0 op_sub fun _ _ _ _ => .int _
theorem op_fdivQ : OpR X (binaryOp .FloorDiv) (rD2 (kc X) fdivD) := op_i op_fdiv (fun i j h => by simpa [CDiv] using h) fun _ _ _ _ => .int _
theorem op_modQ : OpR X (binaryOp .Mod) (rD2 (kc X) modD) := op_i op_mod (fun i j h => by simpa using h) fun _ _ _ _ => .int _
theorem op_powQ : OpR X (binaryOp .Pow) (rD2 (kc X) powD) := op_i op_pow (fun i j h => by simp only [Bool.and_eq_true, decide_eq_true_eq] at h; exact ⟨h.1.1, h.1.2, h.2⟩) fun _ _ _ _ => .int _
end

/-! ### + and * -/
def addD : D → D → Option D
  | .int i, .int j => some (.int (i + j))
  | .str x, .str y => if x.length + y.length ≤ sizeLine then some (.str (x ++ y)) else none
  | .tup xs, .tup ys => if xs.length + ys.length ≤ sizeLine then some (.tup (xs ++ ys)) else none
  | .lst xs, .lst ys => if xs.length + ys.length ≤ sizeLine then some (.lst (xs ++ ys)) else none
  | _, _ => none
section
variable {X : Cx}
theorem op_addQ : OpR X (binaryOp .Add) (rD2 (kc X) addD) := impOpR (OpR.or op_add (OpR.or op_add_str (OpR.or op_catA op_cat))) fun x y H Q ⟨T, F, τ, d, e, b, rd, re, r, hr, k⟩ => by
  cases d with
  | int i =>
    cases e with
    | int j => cases hr; exact .inl ⟨i, j, rd.int, re.int, k _ F H b.refl (.int _)⟩
    | _ => cases hr
  | str i =>
    cases e with
    | str j =>
      rw [addD] at hr
      split at hr
      · rename_i hl
        cases hr
        exact .inr (.inl ⟨i, j, rd.str, re.str, hl, k _ F H b.refl (.str _)⟩)
      · cases hr
    | _ => cases hr
  | tup xs =>
    cases e with
    | tup ys =>
      rw [addD] at hr
      split at hr
      · rename_i hl
        cases hr
        obtain ⟨p, vs, rfl, hp, rp⟩ := rd.tup
        obtain ⟨q, ws, rfl, hq, rq⟩ := re.tup
        refine .inr (.inr (.inl ⟨p, q, vs, ws, rfl, rfl, seqT b.le hp, seqT b.le hq, by rw [rp.length, rq.length]; exact hl, fun e1 => ?_, fun _ e1 => ?_, fun _ _ a ha => ?_⟩))
        · subst e1
          cases rp
          exact k _ F H b.refl (.tup hq rq)
        · subst e1
          cases rq
          refine k _ F H b.refl ?_
          rw [List.append_nil]
          exact .tup hp rp
        · have x1 := b.push (o := .tup (vs ++ ws)) ha
          exact k _ _ _ x1 (.tup (SqT.of upd_same) ((rp.append rq).mono x1.le))
      · cases hr
    | _ => cases hr
  | lst xs =>
    cases e with
    | lst ys =>
      rw [addD] at hr
      split at hr
      · rename_i hl
        cases hr
        obtain ⟨p, vs, rfl, hp, rp⟩ := rd.lst b.le
        obtain ⟨q, ws, rfl, hq, rq⟩ := re.lst b.le
        refine .inr (.inr (.inr ⟨p, q, vs, ws, rfl, rfl, hp, hq, by rw [rp.length, rq.length]; exact hl, fun a ha => ?_⟩))
        have x1 := b.push (o := .lst (vs ++ ws)) ha
        exact k _ _ _ x1 (.lst upd_same ((rp.append rq).mono x1.le))
      · cases hr
    | _ => cases hr
  | _ => cases hr
end
end DL
end

section
set_option Elab.async false
set_option linter.all false
set_option maxRecDepth 100000
set_option maxHeartbeats 2000000
/-! DLE: items, slices, products, built-in functions on data -/
namespace DL
open PySem PySem.Spec PyProof.Rows L2

/-! ### items -/
def ixD : D → D → Option D
  | .tup xs, .int i => atI xs i
  | .lst xs, .int i => atI xs i
  | .scr ns, .int i => (atI ns i).map .int
  | .dct ps, .int i => (ps.find? fun p => decide (p.1 = i)).map fun p => .int p.2
  | .str z, .int i => if z.length ≤ sizeLine then (atI z.cps.toList i).map fun c => .str ⟨#[c]⟩ else none
  | _, _ => none
section
variable {κ : Kc} {T : Option Addr} {F H : Hp} {vs : List V} {ds : List D} {d : D} {i : Int}
theorem RepAll.atI (r : RepAll κ T F vs ds) (h : L2.atI ds i = some d) : ∃ v, L2.atI vs i = some v ∧ Rep κ T F v d := by
  unfold L2.atI at h ⊢
  rw [r.length]
  cases e : ixN ds.length i with
  | none => rw [e] at h; cases h
  | some j =>
    rw [e] at h
    obtain ⟨v, h1, h2⟩ := RepAll.get r h
    exact ⟨v, h1, h2⟩
theorem atI_ints {ns : List Int} {k : Int} (h : L2.atI ns i = some k) : L2.atI (ns.map V.int) i = some (.int k) := by
  unfold L2.atI at h ⊢
  rw [List.length_map]
  cases e : ixN ns.length i with
  | none => rw [e] at h; cases h
  | some j =>
    rw [e] at h
    have h : ns[j]? = some k := h
    show (ns.map V.int)[j]? = _
    rw [List.getElem?_map, h]
    rfl
end
section
variable {X : Cx} {W : WX} {m : Bool} {a b c e : Expr} {es : List Expr} {fa fb fc : Env → M D} {fs : Env → M (List D)} {pos : Pos}
theorem impIxR {r r' : R2} (h : IxR X r) (i : ∀ x y H Q, r' x y H Q → r x y H Q) : IxR X r' := fun value slice pins s σ H x y v u Q I rx ry q => h value slice pins s σ H x y v u Q I rx ry (i x y H Q q)
theorem ix_dK : IxR X (fun x y H Q => ∃ p kvs k v, x = .ref p ∧ y = kV k ∧ H p = some (.dK kvs) ∧ valV kvs k = some v ∧ Q v H) := by
  intro value slice pins s σ H x y v u Q I rx ry h hs
  obtain ⟨p, kvs, k, r, rfl, rfl, e, hv, q⟩ := h
  obtain rfl : v = Value.ref p := rx
  obtain ⟨z, hd, vs, rel, dd⟩ := dk_of I.hok e
  obtain ⟨w', hw, rw'⟩ := RelO.some_of (v := r) (o := valueAt vs k) (by rw [← hv]; exact rel.val k)
  exact tail_any dd.typeIs PySem.F.slot_dict_getitem.lookup (wpAny_getItem_of (kV_is ry) dd.mapOf hw ⟨r, H, I.tok _, rw', q⟩) hs
theorem valV_dV (ps : List (Int × Int)) (i : Int) : valV (dV ps) (.inl i) = (ps.find? fun p => decide (p.1 = i)).map fun p => .int p.2 := by
  unfold valV dV
  rw [List.find?_map, Option.map_map]
  have e : ((fun kv : Key × V => decide (kv.1 = .inl i)) ∘ fun p : Int × Int => ((Sum.inl p.1 : Key), V.int p.2)) = fun p => decide (p.1 = i) := by
    funext p
    simp only [Function.comp, Sum.inl.injEq]
  rw [e]
  rfl
theorem ixQ : IxR X (rD2 (kc X) ixD) := impIxR (IxR.or ix_seq ix_dK) fun x y H Q ⟨T, F, τ, d, e, b, rd, re, r, hr, k⟩ => by
  cases e with
  | int i =>
    cases re.int
    cases d with
    | tup xs =>
      obtain ⟨p, vs, rfl, hp, rp⟩ := rd.tup
      obtain ⟨v, h1, h2⟩ := rp.atI hr
      exact .inl (.inr (.inl ⟨p, vs, i, v, rfl, rfl, seqT b.le hp, h1, k _ F H b.refl h2⟩))
    | lst xs =>
      obtain ⟨p, vs, rfl, hp, rp⟩ := rd.lst b.le
      obtain ⟨v, h1, h2⟩ := rp.atI hr
      exact .inl (.inl ⟨p, vs, i, v, rfl, rfl, SqL.of hp, h1, k _ F H b.refl h2⟩)
    | scr ns =>
      obtain ⟨p, rfl, hp⟩ := rd.scr
      rw [ixD] at hr
      cases e : L2.atI ns i with
      | none => rw [e] at hr; cases hr
      | some j =>
        rw [e] at hr
        cases hr
        exact .inl (.inl ⟨p, _, i, _, rfl, rfl, b.le.seq hp, atI_ints e, k _ F H b.refl (.int j)⟩)
    | str z =>
      rw [ixD] at hr
      split at hr
      · rename_i hz
        cases e : L2.atI z.cps.toList i with
        | none => rw [e] at hr; cases hr
        | some c =>
          rw [e] at hr
          cases hr
          exact .inl (.inr (.inr ⟨z, i, c, rd.str, rfl, hz, e, k _ F H b.refl (.str _)⟩))
      · cases hr
    | dct ps =>
      obtain ⟨p, rfl, hp⟩ := rd.dct
      rw [ixD] at hr
      cases e : ps.find? fun p => decide (p.1 = i) with
      | none => rw [e] at hr; cases hr
      | some q =>
        rw [e] at hr
        cases hr
        exact .inr ⟨p, dV ps, .inl i, .int q.2, rfl, rfl, b.le _ _ hp, by rw [valV_dV, e]; rfl, k _ F H b.refl (.int q.2)⟩
    | _ => cases hr
  | _ => cases d <;> cases hr
theorem de_ix (ha : DE X W true a fa) (hb : DE X W true b fb) (hs : PlainIx b := by exact fun _ _ => rfl) : DE X W m (.Subscript a b pos) (dOp ixD fa fb) :=
  impPE (pe_ix ixQ ha hb hs) fun σ H Q q => tOp_of q

/-! ### slices -/
def cutL {α : Type} (xs : List α) (lo hi : Option Int) : List α := (xs.drop (HT.sIx xs.length 0 lo)).take (HT.sIx xs.length xs.length hi - HT.sIx xs.length 0 lo)
theorem cutV_eq (xs : List V) (lo hi : Option Int) : cutV xs lo hi = cutL xs lo hi := rfl
theorem RepAll.cut {κ : Kc} {T : Option Addr} {F : Hp} {vs : List V} {ds : List D} (r : RepAll κ T F vs ds) (lo hi : Option Int) : RepAll κ T F (cutV vs lo hi) (cutL ds lo hi) := by
  rw [cutV_eq]
  unfold cutL
  rw [r.length]
  exact (r.drop _).take _
theorem cutL_map {α β : Type} (f : α → β) (xs : List α) (lo hi : Option Int) : cutL (xs.map f) lo hi = (cutL xs lo hi).map f := by
  unfold cutL
  rw [List.length_map, List.map_take, List.map_drop]
def slD (lo hi : Option Int) : D → Option D
  | .tup xs => some (.tup (cutL xs lo hi))
  | .lst xs => some (.lst (cutL xs lo hi))
  | .scr ns => some (.lst ((cutL ns lo hi).map .int))
  | _ => none
def rSlD (κ : Kc) : V → Option Int → Option Int → Hp → VK → Prop := fun x lo hi H Q => ∃ T F τ d, Bs T F H τ ∧ RepTop κ T F H x d ∧ ∃ r, slD lo hi d = some r ∧ ∀ v F' H', Ext T F H F' H' τ → Rep κ T F' v r → Q v H'
theorem cut_whole {α : Type} {xs : List α} {lo hi : Option Int} (h : HT.sIx xs.length 0 lo = 0 ∧ HT.sIx xs.length xs.length hi = xs.length) : cutL xs lo hi = xs := by
  unfold cutL
  rw [h.1, h.2, List.drop_zero, Nat.sub_zero]
  exact List.take_length
theorem slQ : SlR X (rSlD (kc X)) := by
  intro pins s σ H x v vl vu lo hi sl Q I rx hs pl pu ⟨T, F, τ, d, b, rd, r, hr, k⟩
  cases d with
  | tup xs =>
    obtain ⟨p, vs, rfl, hp, rp⟩ := rd.tup
    cases hr
    refine sl_tupA pins s σ H _ v vl vu lo hi sl Q I rx hs pl pu ⟨p, vs, rfl, seqT b.le hp, fun hw => ?_, fun hw q hq => ?_⟩
    · refine k _ F H b.refl ?_
      rw [cut_whole (by rw [← rp.length]; exact hw)]
      exact .tup hp rp
    · have x1 := b.push (o := .tup (cutV vs lo hi)) hq
      exact k _ _ _ x1 (.tup (SqT.of upd_same) ((rp.cut lo hi).mono x1.le))
  | lst xs =>
    obtain ⟨p, vs, rfl, hp, rp⟩ := rd.lst b.le
    cases hr
    refine sl_list pins s σ H _ v vl vu lo hi sl Q I rx hs pl pu ⟨p, vs, rfl, SqL.of hp, fun q hq => ?_⟩
    have x1 := b.push (o := .lst (cutV vs lo hi)) hq
    exact k _ _ _ x1 (.lst upd_same ((rp.cut lo hi).mono x1.le))
  | scr ns =>
    obtain ⟨p, rfl, hp⟩ := rd.scr
    cases hr
    refine sl_list pins s σ H _ v vl vu lo hi sl Q I rx hs pl pu ⟨p, _, rfl, b.le.seq hp, fun q hq => ?_⟩
    have x1 := b.push (o := .lst (cutV (ns.map V.int) lo hi)) hq
    refine k _ _ _ x1 (.lst upd_same ?_)
    rw [cutV_eq, cutL_map]
    exact repAll_ints _
  | _ => cases hr
/-- a slice's part -/
def tDP (κ : Kc) (mg : Str → Option Value) (W : WX) (f : Env → M (Option Int)) : TO := fun σ H Q => ∃ T F ρ τ, SR κ T F H σ ρ τ ∧
  wpR (f ρ τ) (fun b τ' => ∀ F' H', Ext T F H F' H' τ' → Q b H') (wX mg W T F H σ)
abbrev DP (X : Cx) (W : WX) (e : Option Expr) (f : Env → M (Option Int)) : Prop := PO X e (tDP (kc X) X.mg W f)
theorem impPO {X : Cx} {e : Option Expr} {t t' : TO} (h : PO X e t) (i : ∀ σ H Q, t' σ H Q → t σ H Q) : PO X e t' := ⟨fun pins s σ H Q I q => h.run pins s σ H Q I (i σ H Q q)⟩
def pNone : Env → M (Option Int) := fun _ => M.pure none
def toI : D → M Int
  | .int i => M.pure i
  | _ => M.no
def pSome (f : Env → M D) : Env → M (Option Int) := fun ρ => M.bind (f ρ) fun x => M.bind (toI x) fun i => M.pure (some i)
theorem dp_none : DP X W none pNone := impPO po_none fun σ H Q ⟨T, F, ρ, τ, s, q⟩ => by
  have q : ∀ F' H', Ext T F H F' H' τ → Q none H' := q
  exact q F H s.bs.refl
theorem dp_some (h : DE X W false e fa) : DP X W (some e) (pSome fa) := impPO (po_some h) fun σ H Q ⟨T, F, ρ, τ, s, q⟩ => by
  refine tD_mono (tD_of (m := false) s s.bs.refl q) fun x H1 ⟨F1, τ1, d, x1, y1, s1, r1, q1⟩ => ?_
  cases r1 with
  | int i => exact ⟨i, rfl, q1 F1 H1 x1⟩
  | _ => exact q1.elim
def dSlice (fa : Env → M D) (lo hi : Env → M (Option Int)) : Env → M D := fun ρ => M.bind (fa ρ) fun x => M.bind (lo ρ) fun i => M.bind (hi ρ) fun j => M.lift (slD i j x)
theorem tDP_mono {κ : Kc} {mg : Str → Option Value} {σ : L2.St} {H : Hp} {f : Env → M (Option Int)} {Q Q' : Option Int → Hp → Prop} (h : tDP κ mg W f σ H Q) (i : ∀ v H, Q v H → Q' v H) : tDP κ mg W f σ H Q' := by
  obtain ⟨T, F, ρ, τ, s, q⟩ := h
  exact ⟨T, F, ρ, τ, s, wpR_mono q (fun d τ' q F' H' x => i _ _ (q F' H' x)) fun _ _ z => z⟩
theorem tDP_of {κ : Kc} {mg : Str → Option Value} {T : Option Addr} {F H F1 H1 : Hp} {σ : L2.St} {ρ : Env} {τ1 : Tin} {α : Type} {f : Env → M (Option Int)} {k : Option Int → M α} {P : α → Tin → Prop} (s : SR κ T F1 H1 σ ρ τ1) (x : Ext T F H F1 H1 τ1)
    (h : wpR (M.bind (f ρ) k τ1) P (wX mg W T F H σ)) : tDP κ mg W f σ H1 (fun b H2 => ∃ F2 τ2, Ext T F H F2 H2 τ2 ∧ Ext T F1 H1 F2 H2 τ2 ∧ SR κ T F2 H2 σ ρ τ2 ∧ wpR (k b τ2) P (wX mg W T F H σ)) :=
  ⟨T, F1, ρ, τ1, s, wpR_mono (wpR_bind h) (fun b τ2 q F2 H2 y => ⟨F2, τ2, x.trans y, y, s.ext y, q⟩) fun _ _ z => z.ext x⟩
theorem de_slice {lo hi : Option Expr} {fl fh : Env → M (Option Int)} {p2 : Pos} (ha : DE X W true e fa) (hl : DP X W lo fl) (hh : DP X W hi fh) : DE X W m (.Subscript e (.Slice lo hi none p2) pos) (dSlice fa fl fh) :=
  impPE (pe_slice slQ ha hl hh) fun σ H Q ⟨T, F, ρ, τ, s, q⟩ => by
    refine tD_mono (tD_of (m := true) s s.bs.refl q) fun x H1 ⟨F1, τ1, d, x1, y1, s1, r1, q1⟩ => ?_
    refine tDP_mono (tDP_of s1 x1 q1) fun l H2 ⟨F2, τ2, x2, y2, s2, q2⟩ => ?_
    refine tDP_mono (tDP_of s2 x2 q2) fun u H3 ⟨F3, τ3, x3, y3, s3, q3⟩ => ?_
    obtain ⟨r, e1, q4⟩ := wpR_lift q3
    exact ⟨T, F3, τ3, d, s3.bs, ((r1.top.ext y2).ext y3), r, e1, fun v F' H' x4 rv => q4 v F' H' (x3.trans x4) (repM rv)⟩

/-! ### products -/
theorem tuple_mul1 (l : Addr) (items : Array Value) (n : Nat) (dd : Option Addr) (sl : Array (Option Value)) (u : Tok) :
    Meets (Builtin.«tuple.__mul__» ⟨[.ref l, .int 1 u], []⟩) (fun _ R s => s.heap.get? l = some { cls := .type "tuple", dict := dd, data := .seq items n, slots := sl } ∧
      R (.ok (.ret (Value.ref l))) s) :=
  .of_wp fun prog w A R s h => by
    obtain ⟨hp, g, d, tk, os⟩ := s
    obtain ⟨hl, h⟩ := h
    have f1 := AutoSeq1.idx_int
    wp_walk using wpAny_loadPart' hl
    exact ⟨_, rfl, h⟩
def rRep1 (K : PySem.W.Frag) : R2 := fun x y H Q => ∃ l xs, x = .ref l ∧ y = .int 1 ∧ SqT K H l xs ∧ Q (.ref l) H
theorem op_rep1 : OpR X (binaryOp .Mult) (rRep1 X.K) := by
  intro pins s σ H x y v u Q I rx ry h
  obtain ⟨l, xs, rfl, rfl, hT, q⟩ := h
  cases rx
  obtain ⟨t, rfl⟩ := ry
  obtain ⟨its, r, ⟨⟨cls, dd, data, sl⟩, ho, hc, n, hd⟩, hs⟩ := I.tuple hT
  simp only at hc hd
  subst hc hd
  exact wpAny_binaryOp_repeat_ref (T := "tuple") (U := "int") (by decide) ⟨_, ho, rfl⟩ (fun s' => typeIs_int s' 1 t) noFill_tuple_mul F.fills_int_mul F.slot_int_rmul repeat_tuple F.slot_int_index.lookup
    (call_meets F.slot_int_rmul (typeIs_int s 1 t) F.entry_int_rmul (F.args_int_rmul_2 _ _) (int_rmul_tuple 1 t l its.toArray n dd sl)
      ⟨ho, rfl, ⟨_, ho, rfl⟩, call_meets F.slot_tuple_mul ⟨_, ho, rfl⟩ F.entry_tuple_mul (F.args_tuple_mul_2 _ _) (tuple_mul1 l its.toArray n dd sl t) ⟨ho, ⟨.ref l, H, I, rfl, q⟩⟩⟩)
def repOk (n : Nat) (k : Int) : Bool := decide (k = 1) || (decide (0 < n) && decide (2 ≤ k) && decide (k ≤ 1000) && decide (n ≤ 1000))
def mulD : D → D → Option D
  | .int i, .int j => if (small64 i || small64 j) = true then some (.int (i * j)) else none
  | .tup xs, .int k => if repOk xs.length k = true then some (.tup (List.replicate k.toNat xs).flatten) else none
  | .lst xs, .int k => if (decide (-(2 ^ 63) ≤ k) && decide (k < 2 ^ 63) && decide (xs.length * k.toNat ≤ sizeLine)) = true then some (.lst (List.replicate k.toNat xs).flatten) else none
  | _, _ => none
theorem RepAll.rep {κ : Kc} {T : Option Addr} {F : Hp} {vs : List V} {ds : List D} (r : RepAll κ T F vs ds) : ∀ n : Nat, RepAll κ T F (List.replicate n vs).flatten (List.replicate n ds).flatten
  | 0 => .nil
  | n + 1 => by
    rw [List.replicate_succ, List.replicate_succ, List.flatten_cons, List.flatten_cons]
    exact r.append (r.rep n)
theorem op_mulQ : OpR X (binaryOp .Mult) (rD2 (kc X) mulD) := impOpR (OpR.or op_mul (OpR.or op_rep1 (OpR.or op_repT op_rep))) fun x y H Q ⟨T, F, τ, d, e, b, rd, re, r, hr, k⟩ => by
  cases e with
  | int j =>
    cases re.int
    cases d with
    | int i =>
      rw [mulD] at hr
      split at hr
      · rename_i hc
        cases hr
        refine .inl ⟨i, j, rd.int, rfl, ?_, k _ F H b.refl (.int _)⟩
        simp only [small64, Bool.or_eq_true, Bool.and_eq_true, decide_eq_true_eq] at hc
        exact hc
      · cases hr
    | tup xs =>
      rw [mulD] at hr
      split at hr
      · rename_i hc
        cases hr
        obtain ⟨p, vs, rfl, hp, rp⟩ := rd.tup
        unfold repOk at hc
        simp only [Bool.or_eq_true, Bool.and_eq_true, decide_eq_true_eq] at hc
        by_cases h1 : j = 1
        · subst h1
          refine .inr (.inl ⟨p, vs, rfl, rfl, seqT b.le hp, k _ F H b.refl ?_⟩)
          have e : (List.replicate (1 : Int).toNat xs).flatten = xs := by
            show (List.replicate 1 xs).flatten = xs
            simp
          rw [e]
          exact .tup hp rp
        · rcases hc with hc | ⟨⟨⟨h2, h3⟩, h4⟩, h5⟩
          · exact absurd hc h1
          · refine .inr (.inr (.inl ⟨p, j, vs, rfl, rfl, seqT b.le hp, fun e => ?_, h3, h4, by rw [rp.length]; exact h5, fun q hq => ?_⟩))
            · rw [e] at rp
              rw [← rp.length] at h2
              exact absurd h2 (by simp)
            · have x1 := b.push (o := .tup (List.replicate j.toNat vs).flatten) hq
              exact k _ _ _ x1 (.tup (SqT.of upd_same) ((rp.rep _).mono x1.le))
      · cases hr
    | lst xs =>
      rw [mulD] at hr
      split at hr
      · rename_i hc
        cases hr
        obtain ⟨p, vs, rfl, hp, rp⟩ := rd.lst b.le
        simp only [Bool.and_eq_true, decide_eq_true_eq] at hc
        refine .inr (.inr (.inr ⟨p, j, vs, rfl, rfl, hp, hc.1.1, hc.1.2, by rw [rp.length]; exact hc.2, fun q hq => ?_⟩))
        have x1 := b.push (o := .lst (List.replicate j.toNat vs).flatten) hq
        exact k _ _ _ x1 (.lst upd_same ((rp.rep _).mono x1.le))
      · cases hr
    | _ => cases hr
  | _ => cases d <;> cases hr
end
end DL
end

section
set_option Elab.async false
set_option linter.all false
set_option maxRecDepth 100000
set_option maxHeartbeats 2000000
/-! DLF: built-in functions, isinstance, calls of defs -/
namespace DL
open PySem PySem.Spec PyProof.Rows L2

/-! ### built-in functions -/
def rDn (κ : Kc) (g : List D → Option D) : List V → Hp → VK → Prop := fun xs H Q => ∃ T F τ ds, Bs T F H τ ∧ RepMs true κ T F H xs ds ∧ ∃ r, g ds = some r ∧ ∀ v F' H', Ext T F H F' H' τ → Rep κ T F' v r → Q v H'
def dCB (g : List D → Option D) (fs : Env → M (List D)) : Env → M D := fun ρ => M.bind (fs ρ) fun xs => M.lift (g xs)
section
variable {X : Cx} {W : WX} {m : Bool} {a b c e : Expr} {es : List Expr} {fa fb fc : Env → M D} {fs : Env → M (List D)} {p pos : Pos} {x : Str} {g : List D → Option D}
theorem tCB_of {σ : L2.St} {H : Hp} {Q : VK} (q : tD (kc X) X.mg W m (dCB g fs) σ H Q) : tCB (rDn (kc X) g) (tDs (kc X) X.mg W true fs) σ H Q := by
  obtain ⟨T, F, ρ, τ, s, q⟩ := q
  refine tDs_mono (tDs_of s s.bs.refl q) fun xs H1 ⟨F1, τ1, ds, x1, y1, s1, r1, q1⟩ => ?_
  obtain ⟨r, e1, q2⟩ := wpR_lift q1
  exact ⟨T, F1, τ1, ds, s1.bs, r1, r, e1, fun v F' H' x2 rv => q2 v F' H' (x1.trans x2) (repM rv)⟩
theorem de_callB {id : String} (hc : CallR X (.builtin id) (rDn (kc X) g)) (hg : Gl X x) (hm : X.mg x = none) (hv : bootBuiltins x = some (.builtin id)) (ha : DA X W true (e :: es) fs) (hn : x ≠ "__name__" := by decide) (hdb : (x == ("__debug__" : Str)) = false := by decide)
    (he : starEach (e :: es) X.env = (false, eval e X.env) :: starEach es X.env := by rfl) (hpl : (backTo pos (starEach es X.env)).any (·.1) = false := by rfl) : DE X W m (.Call (.Name x p) (e :: es) [] pos) (dCB g fs) :=
  impPE (pe_callB hc hg hm hv ha hn hdb he hpl) fun σ H Q q => tCB_of q
theorem de_callTy {T : String} (hc : CallR X (.type T) (rDn (kc X) g)) (hg : Gl X x) (hm : X.mg x = none) (hv : bootBuiltins x = some (.type T)) (ha : DA X W true (e :: es) fs) (hn : x ≠ "__name__" := by decide) (hdb : (x == ("__debug__" : Str)) = false := by decide)
    (he : starEach (e :: es) X.env = (false, eval e X.env) :: starEach es X.env := by rfl) (hpl : (backTo pos (starEach es X.env)).any (·.1) = false := by rfl) : DE X W m (.Call (.Name x p) (e :: es) [] pos) (dCB g fs) :=
  impPE (pe_callTy hc hg hm hv ha hn hdb he hpl) fun σ H Q q => tCB_of q

def lenD : List D → Option D
  | [.tup xs] => some (.int xs.length)
  | [.lst xs] => some (.int xs.length)
  | [.scr xs] => some (.int xs.length)
  | [.str z] => if z.length ≤ sizeLine then some (.int z.length) else none
  | _ => none
theorem reps1 {κ : Kc} {T : Option Addr} {F H : Hp} {xs : List V} {d : D} (r : RepMs true κ T F H xs [d]) : ∃ x, xs = [x] ∧ RepTop κ T F H x d := by
  cases r with
  | cons r t => cases t; exact ⟨_, rfl, r⟩
theorem reps2 {κ : Kc} {T : Option Addr} {F H : Hp} {xs : List V} {d e : D} (r : RepMs true κ T F H xs [d, e]) : ∃ x y, xs = [x, y] ∧ RepTop κ T F H x d ∧ RepTop κ T F H y e := by
  cases r with
  | cons r t =>
    cases t with
    | cons r2 t => cases t; exact ⟨_, _, rfl, r, r2⟩
theorem cr_lenQ : CallR X (.builtin "len") (rDn (kc X) lenD) := impCallR (CallR.or call_len_seq call_len_str) fun xs H Q ⟨T, F, τ, ds, b, rs, r, hr, k⟩ => by
  match ds, hr, rs with
  | [.tup ys], hr, rs =>
    obtain ⟨x, rfl, rx⟩ := reps1 rs
    obtain ⟨p, vs, rfl, hp, rp⟩ := rx.tup
    cases hr
    exact .inl ⟨p, vs, rfl, .inr (seqT b.le hp), by rw [rp.length]; exact k _ F H b.refl (.int _)⟩
  | [.lst ys], hr, rs =>
    obtain ⟨x, rfl, rx⟩ := reps1 rs
    obtain ⟨p, vs, rfl, hp, rp⟩ := rx.lst b.le
    cases hr
    exact .inl ⟨p, vs, rfl, .inl (SqL.of hp), by rw [rp.length]; exact k _ F H b.refl (.int _)⟩
  | [.scr ys], hr, rs =>
    obtain ⟨x, rfl, rx⟩ := reps1 rs
    obtain ⟨p, rfl, hp⟩ := rx.scr
    cases hr
    exact .inl ⟨p, _, rfl, .inl (b.le.seq hp), by rw [List.length_map]; exact k _ F H b.refl (.int _)⟩
  | [.str z], hr, rs =>
    obtain ⟨x, rfl, rx⟩ := reps1 rs
    rw [lenD] at hr
    split at hr
    · rename_i hz
      cases hr
      exact .inr ⟨z, by rw [rx.str], hz, k _ F H b.refl (.int _)⟩
    · cases hr
def maxD : List D → Option D
  | [.int i, .int j] => some (.int (if j > i then j else i))
  | _ => none
def minD : List D → Option D
  | [.int i, .int j] => some (.int (if j < i then j else i))
  | _ => none
theorem cr_maxQ (hc : X.calm = true) : CallR X (.builtin "max") (rDn (kc X) maxD) := impCallR (call_max2 hc) fun xs H Q ⟨T, F, τ, ds, b, rs, r, hr, k⟩ => by
  match ds, hr, rs with
  | [.int i, .int j], hr, rs =>
    obtain ⟨x, y, rfl, rx, ry⟩ := reps2 rs
    cases hr
    exact ⟨i, j, by rw [rx.int, ry.int], k _ F H b.refl (.int _)⟩
theorem cr_minQ (hc : X.calm = true) : CallR X (.builtin "min") (rDn (kc X) minD) := impCallR (call_min2 hc) fun xs H Q ⟨T, F, τ, ds, b, rs, r, hr, k⟩ => by
  match ds, hr, rs with
  | [.int i, .int j], hr, rs =>
    obtain ⟨x, y, rfl, rx, ry⟩ := reps2 rs
    cases hr
    exact ⟨i, j, by rw [rx.int, ry.int], k _ F H b.refl (.int _)⟩
def absD : List D → Option D
  | [.int i] => some (.int (if i < 0 then -i else i))
  | _ => none
theorem cr_absQ : CallR X (.builtin "abs") (rDn (kc X) absD) := impCallR call_abs fun xs H Q ⟨T, F, τ, ds, b, rs, r, hr, k⟩ => by
  match ds, hr, rs with
  | [.int i], hr, rs =>
    obtain ⟨x, rfl, rx⟩ := reps1 rs
    cases hr
    exact ⟨i, by rw [rx.int], k _ F H b.refl (.int _)⟩
def intD : List D → Option D
  | [.int i] => some (.int i)
  | [.bl b] => some (.int (if b then 1 else 0))
  | _ => none
theorem cr_intQ : CallR X (.type "int") (rDn (kc X) intD) := impCallR call_int1 fun xs H Q ⟨T, F, τ, ds, b, rs, r, hr, k⟩ => by
  match ds, hr, rs with
  | [.int i], hr, rs =>
    obtain ⟨x, rfl, rx⟩ := reps1 rs
    cases hr
    exact .inl ⟨i, by rw [rx.int], k _ F H b.refl (.int _)⟩
  | [.bl i], hr, rs =>
    obtain ⟨x, rfl, rx⟩ := reps1 rs
    cases hr
    exact .inr ⟨i, by rw [rx.bl], k _ F H b.refl (.int _)⟩
def tupleD : List D → Option D
  | [.tup xs] => some (.tup xs)
  | [.lst xs] => some (.tup xs)
  | _ => none
theorem cr_tupleQ : CallR X (.type "tuple") (rDn (kc X) tupleD) := impCallR call_tuple_of fun xs H Q ⟨T, F, τ, ds, b, rs, r, hr, k⟩ => by
  match ds, hr, rs with
  | [.tup ys], hr, rs =>
    obtain ⟨x, rfl, rx⟩ := reps1 rs
    obtain ⟨p, vs, rfl, hp, rp⟩ := rx.tup
    cases hr
    exact ⟨p, vs, rfl, .inr ⟨seqT b.le hp, k _ F H b.refl (.tup hp rp)⟩⟩
  | [.lst ys], hr, rs =>
    obtain ⟨x, rfl, rx⟩ := reps1 rs
    obtain ⟨p, vs, rfl, hp, rp⟩ := rx.lst b.le
    cases hr
    refine ⟨p, vs, rfl, .inl ⟨SqL.of hp, fun q hq => ?_⟩⟩
    have x1 := b.push (o := .tup vs) hq
    exact k _ _ _ x1 (.tup (SqT.of upd_same) (rp.mono x1.le))
def listD : List D → Option D
  | [.tup xs] => some (.lst xs)
  | [.lst xs] => some (.lst xs)
  | _ => none
theorem cr_listQ : CallR X (.type "list") (rDn (kc X) listD) := impCallR call_list_of fun xs H Q ⟨T, F, τ, ds, b, rs, r, hr, k⟩ => by
  match ds, hr, rs with
  | [.tup ys], hr, rs =>
    obtain ⟨x, rfl, rx⟩ := reps1 rs
    obtain ⟨p, vs, rfl, hp, rp⟩ := rx.tup
    cases hr
    refine ⟨p, vs, rfl, .inr (seqT b.le hp), fun q hq => ?_⟩
    have x1 := b.push (o := .lst vs) hq
    exact k _ _ _ x1 (.lst upd_same (rp.mono x1.le))
  | [.lst ys], hr, rs =>
    obtain ⟨x, rfl, rx⟩ := reps1 rs
    obtain ⟨p, vs, rfl, hp, rp⟩ := rx.lst b.le
    cases hr
    refine ⟨p, vs, rfl, .inl (SqL.of hp), fun q hq => ?_⟩
    have x1 := b.push (o := .lst vs) hq
    exact k _ _ _ x1 (.lst upd_same (rp.mono x1.le))
def blsOf : List D → Option (List Bool)
  | [] => some []
  | .bl b :: r => (blsOf r).map (b :: ·)
  | _ :: _ => none
theorem blsOf_eq : ∀ {ds : List D} {bs : List Bool}, blsOf ds = some bs → ds = bs.map .bl
  | [], bs, h => by cases h; rfl
  | .bl b :: r, bs, h => by
    rw [blsOf] at h
    cases e : blsOf r with
    | none => rw [e] at h; cases h
    | some cs => rw [e] at h; cases h; rw [blsOf_eq e]; rfl
  | .non :: _, _, h => by cases h
  | .int _ :: _, _, h => by cases h
  | .str _ :: _, _, h => by cases h
  | .tup _ :: _, _, h => by cases h
  | .lst _ :: _, _, h => by cases h
  | .scr _ :: _, _, h => by cases h
  | .tin :: _, _, h => by cases h
  | .dct _ :: _, _, h => by cases h
theorem blsOf_map : ∀ bs : List Bool, blsOf (bs.map .bl) = some bs
  | [] => rfl
  | b :: bs => by rw [List.map_cons, blsOf, blsOf_map bs]; rfl
def allD : List D → Option D
  | [.lst xs] => (blsOf xs).map fun bs => .bl (bs.all id)
  | _ => none
def anyD : List D → Option D
  | [.lst xs] => (blsOf xs).map fun bs => .bl (bs.any id)
  | _ => none
theorem cr_allQ (hc : X.calm = true) : CallR X (.builtin "all") (rDn (kc X) allD) := impCallR (cr_all hc) fun xs H Q ⟨T, F, τ, ds, b, rs, r, hr, k⟩ => by
  match ds, hr, rs with
  | [.lst ys], hr, rs =>
    obtain ⟨x, rfl, rx⟩ := reps1 rs
    obtain ⟨p, vs, rfl, hp, rp⟩ := rx.lst b.le
    rw [allD] at hr
    cases e : blsOf ys with
    | none => rw [e] at hr; cases hr
    | some bs =>
      rw [e] at hr
      cases hr
      rw [blsOf_eq e] at rp
      exact ⟨p, bs, rfl, by rw [← rp.bls]; exact SqL.of hp, k _ F H b.refl (.bl _)⟩
theorem cr_anyQ (hc : X.calm = true) : CallR X (.builtin "any") (rDn (kc X) anyD) := impCallR (cr_any hc) fun xs H Q ⟨T, F, τ, ds, b, rs, r, hr, k⟩ => by
  match ds, hr, rs with
  | [.lst ys], hr, rs =>
    obtain ⟨x, rfl, rx⟩ := reps1 rs
    obtain ⟨p, vs, rfl, hp, rp⟩ := rx.lst b.le
    rw [anyD] at hr
    cases e : blsOf ys with
    | none => rw [e] at hr; cases hr
    | some bs =>
      rw [e] at hr
      cases hr
      rw [blsOf_eq e] at rp
      exact ⟨p, bs, rfl, by rw [← rp.bls]; exact SqL.of hp, k _ F H b.refl (.bl _)⟩

/-! ### isinstance -/
inductive Ty where
  | non | bl | int | str | tup | lst | dct
def Ty.name : Ty → String
  | .non => "NoneType"
  | .bl => "bool"
  | .int => "int"
  | .str => "str"
  | .tup => "tuple"
  | .lst => "list"
  | .dct => "dict"
def Ty.isa : Ty → Ty → Bool
  | .non, .non => true
  | .bl, .bl => true
  | .bl, .int => true
  | .int, .int => true
  | .str, .str => true
  | .tup, .tup => true
  | .lst, .lst => true
  | .dct, .dct => true
  | _, _ => false
theorem kit_isa (a b : Ty) : kitB a.name b.name = some (a.isa b) := by
  cases a <;> cases b <;> decide +kernel
def tyD : D → Ty
  | .non => .non
  | .bl _ => .bl
  | .int _ => .int
  | .str _ => .str
  | .tup _ => .tup
  | .lst _ => .lst
  | .scr _ => .lst
  | .tin => .lst
  | .dct _ => .dct
theorem tyX_of {T : Option Addr} {F H : Hp} {τ : Tin} {v : V} {d : D} (b : Bs T F H τ) (r : RepTop (kc X) T F H v d) : TyX X.K H v (.type (tyD d).name) := by
  have r := r.inH b.le
  cases r with
  | non => exact .base .non
  | bl b => exact .base (.bl b)
  | int b => exact .base (.int b)
  | str b => exact .base (.str b)
  | tup h _ =>
    rcases h with (h | ⟨o, h⟩) | ⟨o, its, n, h1, h2, _⟩
    · exact .base (.tup h)
    · exact .fTuple h
    · exact .kTuple h1 h2
  | lst h _ => exact .base (.lst h)
  | scr h =>
    rcases h with (h | ⟨o, h⟩) | ⟨o, its, n, h1, h2, _⟩
    · exact .base (.lst h)
    · exact .base (.frz h)
    · exact .kList h1 h2
  | tin h => exact .base (.lst (b.tn _ h).2)
  | dct h => exact .base (.dK h)
def dIsi (t : Ty) (fa : Env → M D) : Env → M D := fun ρ => M.bind (fa ρ) fun x => M.pure (.bl ((tyD x).isa t))
def dIsi2 (t u : Ty) (fa : Env → M D) : Env → M D := fun ρ => M.bind (fa ρ) fun x => M.pure (.bl ((tyD x).isa t || (tyD x).isa u))
theorem de_isi (t : Ty) (hg : Gl X "isinstance") (hm : X.mg "isinstance" = none) (ha : DE X W true a fa) (hb : PE X b (tC (.ty t.name)))
    (h1 : starEach [a, b] X.env = (false, eval a X.env) :: starEach [b] X.env := by rfl) (h2 : starEach [b] X.env = (false, eval b X.env) :: starEach [] X.env := by rfl) (hpl : (backTo pos (starEach [b] X.env)).any (·.1) = false := by rfl) :
    DE X W m (.Call (.Name "isinstance" p) [a, b] [] pos) (dIsi t fa) :=
  impPE (pe_callB call_isi hg hm (by decide +kernel) (pa_cons ha (pa_cons hb pa_nil h2) h1) (by decide) (by decide) h1 hpl) fun σ H Q ⟨T, F, ρ, τ, s, q⟩ =>
    tD_mono (tD_of (m := true) s s.bs.refl q) fun x H1 ⟨F1, τ1, d, x1, y1, s1, r1, q1⟩ =>
      ⟨x, .ty t.name, _, .type t.name, _, rfl, .ty _, tyX_of s1.bs r1, kit_ty (kit_isa _ _), q1 _ F1 H1 x1 (repM (.bl _))⟩
theorem de_isi2 (t u : Ty) {k : Nat} {p2 : Pos} (hg : Gl X "isinstance") (hm : X.mg "isinstance" = none) (ha : DE X W true a fa) (hb : PE X b (tC (.ty t.name))) (hc : PE X c (tC (.ty u.name)))
    (h1 : starEach [a, .Tuple [b, c] k p2] X.env = (false, eval a X.env) :: starEach [.Tuple [b, c] k p2] X.env := by rfl) (h2 : starEach [.Tuple [b, c] k p2] X.env = (false, eval (.Tuple [b, c] k p2) X.env) :: starEach [] X.env := by rfl)
    (h3 : starEach [b, c] X.env = (false, eval b X.env) :: starEach [c] X.env := by rfl) (h4 : starEach [c] X.env = (false, eval c X.env) :: starEach [] X.env := by rfl)
    (hpl : (backTo pos (starEach [.Tuple [b, c] k p2] X.env)).any (·.1) = false := by rfl) :
    DE X W m (.Call (.Name "isinstance" p) [a, .Tuple [b, c] k p2] [] pos) (dIsi2 t u fa) :=
  impPE (pe_callB call_isiT hg hm (by decide +kernel) (pa_cons ha (pa_cons (pe_tup (pa_cons hb (pa_cons hc pa_nil h4) h3)) pa_nil h2) h1) (by decide) (by decide) h1 hpl) fun σ H Q ⟨T, F, ρ, τ, s, q⟩ =>
    tD_mono (tD_of (m := true) s s.bs.refl q) fun x H1 ⟨F1, τ1, d, x1, y1, s1, r1, q1⟩ => by
      refine ⟨by show 2 ≤ sizeLine; decide, fun tp htp => ?_⟩
      have x2 := s1.bs.aside (o := .tup [.ty t.name, .ty u.name]) htp
      refine ⟨x, tp, _, .type (tyD d).name, [.type t.name, .type u.name], (tyD d).isa t || (tyD d).isa u, rfl, upd_same, .cons (.ty _) (.cons (.ty _) .nil), tyX_of x2.bs (r1.top.ext x2), ?_, q1 _ _ _ (x1.trans x2) (repM (.bl _))⟩
      refine kitAny_cons (kit_ty (kit_isa _ _)) (fun e => ?_) (fun e => by rw [e]; rfl)
      rw [e, Bool.false_or]
      exact kitAny_cons (kit_ty (kit_isa _ _)) (fun e => by rw [e]; exact kitAny_nil) (fun e => e)

/-! ### calls -/
def spD (κ : Kc) (mg : Str → Option Value) (n : Nat) (f : List D → M D) : Sp := fun vs H Q E => vs.length = n ∧ ∃ T F τ ds, Bs T F H τ ∧ RepAll κ T F vs ds ∧
  wpR (f ds τ) (fun d τ' => ∀ v F' H', Ext T F H F' H' τ' → Rep κ T F' v d → Q v H') (fun e τ' => ∀ F' H' cl, Ext T F H F' H' τ' → mg e = some cl → E cl none H')
/-- the def x keeps the promise that it does what f does on data -/
def Fn (P : Program) (w : World) (K : PySem.W.Frag) (mg : Str → Option Value) (base : Heap) (x : Str) (k n : Nat) (f : List D → M D) : Prop :=
  ∃ (a : Addr) (fd : FuncData) (ps : List Str), mg x = some (.ref a) ∧ PySem.W.keepIn K (.ref a) = true ∧ Binds K fd ps [] ∧ FnOk P w K mg base (L2.CX P w) k a fd ps (spD ⟨P, w, K⟩ mg n f)
abbrev FnX (X : Cx) (x : Str) (k n : Nat) (f : List D → M D) : Prop := Fn X.prog X.w X.K X.mg X.base x k n f
def dCall (n : Nat) (f : List D → M D) (fs : Env → M (List D)) : Env → M D := fun ρ => M.bind (fs ρ) fun ds => if ds.length = n then f ds else M.no
theorem spD_of {n : Nat} {f : List D → M D} {T : Option Addr} {F H F1 H1 : Hp} {σ : L2.St} {τ1 : Tin} {xs : List V} {ds : List D} {Q : VK} (b : Bs T F1 H1 τ1) (x : Ext T F H F1 H1 τ1) (r : RepAll (kc X) T F1 xs ds) (hl : xs.length = n)
    (q : wpR (f ds τ1) (fun d τ' => ∀ v F' H', Ext T F H F' H' τ' → RepM m (kc X) T F' H' v d → Q v H') (wX X.mg W T F H σ)) : spD (kc X) X.mg n f xs H1 Q (WE W σ) :=
  ⟨hl, T, F1, τ1, ds, b, r, wpR_mono q (fun d τ' q v F' H' y rv => q v F' H' (x.trans y) (repM rv)) fun e τ' q F' H' cl y hm => q F' H' cl (x.trans y) hm⟩
theorem de_call {k n : Nat} {f : List D → M D} (G : FnX X x k n f) (hr : Room k X.A) (hg : Gl X x) (tk : Takes X W) (ha : DA X W false (e :: es) fs) (hdb : (x == ("__debug__" : Str)) = false := by decide)
    (he : starEach (e :: es) X.env = (false, eval e X.env) :: starEach es X.env := by rfl) (hpl : (backTo pos (starEach es X.env)).any (·.1) = false := by rfl) : DE X W m (.Call (.Name x p) (e :: es) [] pos) (dCall n f fs) := by
  obtain ⟨fa, fd, ps, h1, h2, h3, h4⟩ := G
  refine impPE (pe_callS (E := WE W) h4 hr hg h1 h2 h3 (fun σ => passAt tk σ) ha hdb he hpl) fun σ H Q ⟨T, F, ρ, τ, s, q⟩ => ?_
  refine tDs_mono (tDs_of (m := false) s s.bs.refl q) fun vs H1 ⟨F1, τ1, ds, x1, y1, s1, r1, q1⟩ => ?_
  split at q1
  · rename_i hl
    exact spD_of s1.bs x1 r1.all (r1.length.trans hl) q1
  · exact q1.elim

end

/-! ### lists of one's own handed to a def that gives out no list -/
mutual
def flatD : D → Bool
  | .tup xs => flatDs xs
  | .lst _ => false
  | .scr _ => false
  | .tin => false
  | .dct _ => false
  | .non => true
  | .bl _ => true
  | .int _ => true
  | .str _ => true
def flatDs : List D → Bool
  | [] => true
  | x :: xs => flatD x && flatDs xs
end
open Classical in
/-- what stays, and every list there is -/
noncomputable def allL (T : Option Addr) (F H : Hp) : Hp := fun a => if (F a).isSome = true then F a else if (∃ vs, H a = some (.lst vs)) ∧ T ≠ some a then H a else none
theorem allL_F {T : Option Addr} {F H : Hp} {a : Addr} {o : HO} (h : F a = some o) : allL T F H a = some o := by
  unfold allL
  rw [if_pos (by rw [h]; rfl)]
  exact h
theorem allL_L {T : Option Addr} {F H : Hp} {a : Addr} {vs : List V} (le : Same F H) (h : H a = some (.lst vs)) (ht : T ≠ some a) : allL T F H a = some (.lst vs) := by
  unfold allL
  split
  · rename_i hs
    cases e : F a with
    | none => rw [e] at hs; cases hs
    | some o => rw [← h]; exact (le _ _ e).symm
  · rw [if_pos ⟨⟨vs, h⟩, ht⟩, h]
theorem of_allL {T : Option Addr} {F H : Hp} {a : Addr} {o : HO} (h : allL T F H a = some o) : F a = some o ∨ (F a = none ∧ H a = some o ∧ (∃ vs, o = .lst vs) ∧ T ≠ some a) := by
  unfold allL at h
  split at h
  · exact .inl h
  · rename_i hn
    split at h
    · rename_i hc
      obtain ⟨⟨vs, hv⟩, ht⟩ := hc
      refine .inr ⟨?_, h, ⟨vs, ?_⟩, ht⟩
      · cases e : F a with
        | none => rfl
        | some u => rw [e] at hn; exact absurd rfl hn
      · rw [hv] at h; exact (Option.some.inj h).symm
    · cases h
theorem bs_allL {T : Option Addr} {F H : Hp} {τ : Tin} (b : Bs T F H τ) : Bs T (allL T F H) H τ := by
  refine ⟨fun a o h => ?_, fun a h => ⟨?_, (b.tn a h).2⟩⟩
  · rcases of_allL h with h | h
    · exact b.le _ _ h
    · exact h.2.1
  · cases e : allL T F H a with
    | none => rfl
    | some o =>
      rcases of_allL e with z | z
      · rw [(b.tn a h).1] at z; cases z
      · exact absurd h z.2.2.2
theorem RepTop.allL {κ : Kc} {T : Option Addr} {F H : Hp} {v : V} {d : D} (r : RepTop κ T F H v d) (le : Same F H) : Rep κ T (allL T F H) v d := by
  rcases r with r | ⟨a, vs, ds, rfl, rfl, h3, h4, h5⟩
  · exact r.mono fun _ _ h => allL_F h
  · exact .lst (allL_L le h3 h4) (h5.mono fun _ _ h => allL_F h)
theorem RepMs.allL {κ : Kc} {T : Option Addr} {F H : Hp} (le : Same F H) : ∀ {vs : List V} {ds : List D}, RepMs true κ T F H vs ds → RepAll κ T (DL.allL T F H) vs ds
  | _, _, .nil => .nil
  | _, _, .cons r t => .cons (RepTop.allL r le) (RepMs.allL le t)
open Classical in
/-- the new part alone -/
noncomputable def newOf (F H F1 : Hp) : Hp := fun a => if (F a).isSome = true ∨ H a = none then F1 a else none
theorem newOf_yes {F H F1 : Hp} {a : Addr} (h : (F a).isSome = true ∨ H a = none) : newOf F H F1 a = F1 a := by
  unfold newOf
  rw [if_pos h]
theorem of_newOf {F H F1 : Hp} {a : Addr} {o : HO} (h : newOf F H F1 a = some o) : ((F a).isSome = true ∨ H a = none) ∧ F1 a = some o := by
  unfold newOf at h
  split at h
  · rename_i hc
    exact ⟨hc, h⟩
  · cases h
theorem ext_newOf {T : Option Addr} {F H F1 H1 : Hp} {τ1 : Tin} (b : Same F H) (x : Ext T (allL T F H) H F1 H1 τ1) : Ext T F H (newOf F H F1) H1 τ1 := by
  refine ⟨x.keep, fun a o h => ?_, fun a o h => x.sub _ _ (of_newOf h).2, fun a o h => ?_, fun a h => ⟨?_, (x.tn a h).2⟩⟩
  · rw [newOf_yes (.inl (by rw [h]; rfl))]
    exact x.le _ _ (allL_F h)
  · obtain ⟨hc, h1⟩ := of_newOf h
    rcases hc with hc | hc
    · cases e : F a with
      | none => rw [e] at hc; cases hc
      | some u =>
        have := x.le _ _ (allL_F e)
        rw [h1] at this
        exact .inl (this ▸ rfl)
    · exact .inr hc
  · cases e : newOf F H F1 a with
    | none => rfl
    | some o => exact absurd (of_newOf e).2 (by rw [(x.tn a h).1]; intro z; cases z)
section
variable {κ : Kc} {T : Option Addr} {F H F1 H1 : Hp} {τ1 : Tin}
theorem seqT_newOf {a : Addr} {vs : List V} (x : Ext T (allL T F H) H F1 H1 τ1) (h : SqT κ.K F1 a vs) : SqT κ.K (newOf F H F1) a vs := by
  have go : ∀ o, F1 a = some o → (∀ vs, o ≠ .lst vs) → newOf F H F1 a = some o := fun o h hn => by
    refine (newOf_yes ?_).trans h
    rcases x.new a o h with z | z
    · rcases of_allL z with z | z
      · exact .inl (by rw [z]; rfl)
      · obtain ⟨vs, e⟩ := z.2.2.1
        exact absurd e (hn vs)
    · exact .inr z
  rcases h with (h | ⟨o, h⟩) | h
  · exact .inl (.inl (go _ h fun vs e => by cases e))
  · exact .inl (.inr ⟨o, go _ h fun vs e => by cases e⟩)
  · exact .inr h
mutual
theorem Rep.newOf (x : Ext T (DL.allL T F H) H F1 H1 τ1) : ∀ {v : V} {d : D}, Rep κ T F1 v d → flatD d = true → Rep κ T (DL.newOf F H F1) v d
  | _, _, .non, _ => .non
  | _, _, .bl b, _ => .bl b
  | _, _, .int b, _ => .int b
  | _, _, .str b, _ => .str b
  | _, .tup ds, .tup h r, q => by
    rw [flatD] at q
    exact .tup (seqT_newOf x h) (RepAll.newOf x r q)
  | _, _, .lst h r, q => by rw [flatD] at q; cases q
  | _, _, .scr h, q => by rw [flatD] at q; cases q
  | _, _, .tin h, q => by rw [flatD] at q; cases q
  | _, _, .dct h, q => by rw [flatD] at q; cases q
theorem RepAll.newOf (x : Ext T (DL.allL T F H) H F1 H1 τ1) : ∀ {vs : List V} {ds : List D}, RepAll κ T F1 vs ds → flatDs ds = true → RepAll κ T (DL.newOf F H F1) vs ds
  | _, _, .nil, _ => .nil
  | _, d :: ds, .cons r t, q => by
    rw [flatDs, Bool.and_eq_true] at q
    exact .cons (Rep.newOf x r q.1) (RepAll.newOf x t q.2)
end
end
def onlyFlat (d : D) : M D := if flatD d = true then M.pure d else M.no
def dCallT (n : Nat) (f : List D → M D) (fs : Env → M (List D)) : Env → M D := fun ρ => M.bind (fs ρ) fun ds => if ds.length = n then M.bind (f ds) onlyFlat else M.no
section
variable {X : Cx} {W : WX} {m : Bool} {e : Expr} {es : List Expr} {fs : Env → M (List D)} {p pos : Pos} {x : Str}
theorem de_callT {k n : Nat} {f : List D → M D} (G : FnX X x k n f) (hr : Room k X.A) (hg : Gl X x) (tk : Takes X W) (ha : DA X W true (e :: es) fs) (hdb : (x == ("__debug__" : Str)) = false := by decide)
    (he : starEach (e :: es) X.env = (false, eval e X.env) :: starEach es X.env := by rfl) (hpl : (backTo pos (starEach es X.env)).any (·.1) = false := by rfl) : DE X W m (.Call (.Name x p) (e :: es) [] pos) (dCallT n f fs) := by
  obtain ⟨fa, fd, ps, h1, h2, h3, h4⟩ := G
  refine impPE (pe_callS (E := WE W) h4 hr hg h1 h2 h3 (fun σ => passAt tk σ) ha hdb he hpl) fun σ H Q ⟨T, F, ρ, τ, s, q⟩ => ?_
  refine tDs_mono (tDs_of (m := true) s s.bs.refl q) fun vs H1 ⟨F1, τ1, ds, x1, y1, s1, r1, q1⟩ => ?_
  split at q1
  · rename_i hl
    refine ⟨r1.length.trans hl, T, allL T F1 H1, τ1, ds, bs_allL s1.bs, r1.allL s1.bs.le, wpR_mono (wpR_bind q1) (fun d τ' q v F' H' y rv => ?_) fun e τ' q F' H' cl y hm => ?_⟩
    · unfold onlyFlat at q
      split at q
      · rename_i hf
        exact q v _ H' (x1.trans (ext_newOf s1.bs.le y)) (repM (rv.newOf y hf))
      · exact q.elim
    · exact q _ H' cl (x1.trans (ext_newOf s1.bs.le y)) hm
  · exact q1.elim
end
end DL
end

section
set_option Elab.async false
set_option linter.all false
set_option maxRecDepth 100000
set_option maxHeartbeats 2000000
/-! DLG: statements over data -/
namespace DL
open PySem PySem.Spec PyProof.Rows L2

/-- how a statement ends -/
inductive O where
  | nx (ρ : Env) (τ : Tin) | rt (d : D) (τ : Tin) | bk (ρ : Env) (τ : Tin) | ct (ρ : Env) (τ : Tin) | exc (e : Str) (ρ : Env) (τ : Tin) | no
abbrev G := Env → Tin → O
/-- a body's state: what stays since its entry, the entry, what stays, the heap, the slots -/
structure Sta (κ : Kc) (T : Option Addr) (Fp F0 H0 F H : Hp) (σ : L2.St) (ρ : Env) (τ : Tin) : Prop where
  sr : SR κ T F H σ ρ τ
  ex : Ext T F0 H0 F H τ
  ow : ∀ (i : Nat) (xs : List D) (a : Addr), ρ[i]? = some (.own xs) → σ[i]? = some (some (.ref a)) → H0 a = none
  pin : Same Fp F
section
variable {κ : Kc} {T : Option Addr} {Fp F0 H0 F H F' H' : Hp} {σ : L2.St} {ρ : Env} {τ τ' : Tin} {v : V} {d : D} {i : Nat} {a : Addr} {vs ws : List V} {ds es : List D}
theorem Sta.ext (s : Sta κ T Fp F0 H0 F H σ ρ τ) (e : Ext T F H F' H' τ') : Sta κ T Fp F0 H0 F' H' σ ρ τ' := ⟨s.sr.ext e, s.ex.trans e, s.ow, s.pin.trans e.le⟩
theorem get_set {α : Type} {l : List α} {i j : Nat} {x y : α} (h : (l.set i x)[j]? = some y) : (i = j ∧ y = x ∧ i < l.length) ∨ (i ≠ j ∧ l[j]? = some y) := by
  by_cases e : i = j
  · subst e
    by_cases hl : i < l.length
    · rw [List.getElem?_set_self hl] at h
      exact .inl ⟨rfl, (Option.some.inj h).symm, hl⟩
    · rw [List.getElem?_eq_none (by rw [List.length_set]; omega)] at h
      cases h
  · rw [List.getElem?_set_ne e] at h
    exact .inr ⟨e, h⟩
/-- a name gets a value -/
theorem Sta.set (s : Sta κ T Fp F0 H0 F H σ ρ τ) (i : Nat) (r : Rep κ T F v d) : Sta κ T Fp F0 H0 F H (σ.set i (some v)) (ρ.set i (.d d)) τ := by
  have own : ∀ (j : Nat) (xs : List D) (a : Addr), (ρ.set i (.d d))[j]? = some (.own xs) → (σ.set i (some v))[j]? = some (some (.ref a)) → ρ[j]? = some (.own xs) ∧ σ[j]? = some (some (.ref a)) := fun j xs a h1 h2 => by
    rcases get_set h1 with ⟨_, e, _⟩ | ⟨ne, h1⟩
    · cases e
    · rw [List.getElem?_set_ne ne] at h2
      exact ⟨h1, h2⟩
  refine ⟨⟨s.sr.bs, by rw [List.length_set, List.length_set, s.sr.len], fun j x h => ?_, fun j k xs ys a h1 h2 h3 h4 => ?_⟩, s.ex, fun j xs a h1 h2 => ?_, s.pin⟩
  · rcases get_set h with ⟨e, e2, hl⟩ | ⟨ne, h⟩
    · subst e e2
      exact ⟨some v, List.getElem?_set_self (by rw [s.sr.len]; exact hl), v, rfl, r⟩
    · rw [List.getElem?_set_ne ne]
      exact s.sr.slot j x h
  · obtain ⟨a1, a2⟩ := own j xs a h1 h3
    obtain ⟨b1, b2⟩ := own k ys a h2 h4
    exact s.sr.apart j k xs ys a a1 b1 a2 b2
  · obtain ⟨a1, a2⟩ := own j xs a h1 h2
    exact s.ow j xs a a1 a2
/-- a name gets a list of its own -/
theorem Sta.own (s : Sta κ T Fp F0 H0 F H σ ρ τ) (i : Nat) (h1 : H a = some (.lst vs)) (h2 : F a = none) (h3 : T ≠ some a) (r : RepAll κ T F vs ds) (h4 : H0 a = none)
    (h5 : ∀ (j : Nat) (ys : List D), j ≠ i → ρ[j]? = some (.own ys) → σ[j]? ≠ some (some (.ref a))) : Sta κ T Fp F0 H0 F H (σ.set i (some (.ref a))) (ρ.set i (.own ds)) τ := by
  refine ⟨⟨s.sr.bs, by rw [List.length_set, List.length_set, s.sr.len], fun j x h => ?_, fun j k xs ys b q1 q2 q3 q4 => ?_⟩, s.ex, fun j xs b q1 q2 => ?_, s.pin⟩
  · rcases get_set h with ⟨e, e2, hl⟩ | ⟨ne, h⟩
    · subst e e2
      exact ⟨_, List.getElem?_set_self (by rw [s.sr.len]; exact hl), a, vs, rfl, h1, h2, h3, r⟩
    · rw [List.getElem?_set_ne ne]
      exact s.sr.slot j x h
  · rcases get_set q1 with ⟨e1, _, hl⟩ | ⟨n1, q1⟩
    · subst e1
      rcases get_set q2 with ⟨e2, _, _⟩ | ⟨n2, q2⟩
      · exact e2
      · rw [List.getElem?_set_self (by rw [s.sr.len]; exact hl)] at q3
        rw [List.getElem?_set_ne n2] at q4
        cases q3
        exact absurd q4 (h5 k ys (Ne.symm n2) q2)
    · rw [List.getElem?_set_ne n1] at q3
      rcases get_set q2 with ⟨e2, _, hl⟩ | ⟨n2, q2⟩
      · subst e2
        rw [List.getElem?_set_self (by rw [s.sr.len]; exact hl)] at q4
        cases q4
        exact absurd q3 (h5 j xs (Ne.symm n1) q1)
      · rw [List.getElem?_set_ne n2] at q4
        exact s.sr.apart j k xs ys b q1 q2 q3 q4
  · rcases get_set q1 with ⟨e1, _, hl⟩ | ⟨n1, q1⟩
    · subst e1
      rw [List.getElem?_set_self (by rw [s.sr.len]; exact hl)] at q2
      cases q2
      exact h4
    · rw [List.getElem?_set_ne n1] at q2
      exact s.ow j xs b q1 q2
/-- a list of one's own is changed -/
theorem Sta.wr (s : Sta κ T Fp F0 H0 F H σ ρ τ) (hi : ρ[i]? = some (.own ds)) (hv : σ[i]? = some (some (.ref a))) (r : RepAll κ T F ws es) :
    Sta κ T Fp F0 H0 F (upd H a (.lst ws)) σ (ρ.set i (.own es)) τ := by
  obtain ⟨x, hx, b, vs, e, h1, h2, h3, h4⟩ := s.sr.slot i _ hi
  rw [hv] at hx
  cases hx
  cases e
  have h0 := s.ow i ds a hi hv
  have hil : i < ρ.length := (List.getElem?_eq_some_iff.mp hi).1
  have bs : Bs T F (upd H a (.lst ws)) τ := ⟨fun c o q => by
    have : c ≠ a := fun z => by subst z; rw [h2] at q; cases q
    rw [upd_ne this]; exact s.sr.bs.le _ _ q, fun c q => ⟨(s.sr.bs.tn c q).1, by
      have : c ≠ a := fun z => by subst z; exact h3 q
      rw [upd_ne this]; exact (s.sr.bs.tn c q).2⟩⟩
  have ownb : ∀ (j : Nat) (xs : List D), (ρ.set i (.own es))[j]? = some (.own xs) → ∃ ys, ρ[j]? = some (.own ys) := fun j xs q => by
    rcases get_set q with ⟨e1, _, _⟩ | ⟨n1, q⟩
    · subst e1; exact ⟨ds, hi⟩
    · exact ⟨xs, q⟩
  refine ⟨⟨bs, by rw [List.length_set, s.sr.len], fun j x h => ?_, fun j k xs ys b q1 q2 q3 q4 => ?_⟩, ⟨fun c o q n => ?_, s.ex.le, bs.le, s.ex.new, bs.tn⟩, fun j xs b q1 q2 => ?_, s.pin⟩
  · rcases get_set h with ⟨e, e2, hl⟩ | ⟨ne, h⟩
    · subst e e2
      exact ⟨_, hv, a, ws, rfl, upd_same, h2, h3, r⟩
    · obtain ⟨u, hu, q⟩ := s.sr.slot j x h
      refine ⟨u, hu, ?_⟩
      cases x with
      | un => trivial
      | d d => exact q
      | own zs =>
        obtain ⟨c, us, e1, e2, e3, e4, e5⟩ := q
        subst e1
        have nc : c ≠ a := fun z => by subst z; exact ne (s.sr.apart i j ds zs c hi h hv hu)
        exact ⟨c, us, rfl, by rw [upd_ne nc]; exact e2, e3, e4, e5⟩
  · obtain ⟨xs', q1'⟩ := ownb j xs q1
    obtain ⟨ys', q2'⟩ := ownb k ys q2
    exact s.sr.apart j k xs' ys' b q1' q2' q3 q4
  · have : c ≠ a := fun z => by subst z; rw [h0] at q; cases q
    rw [upd_ne this]
    exact s.ex.keep c o q n
  · obtain ⟨xs', q1'⟩ := ownb j xs q1
    exact s.ow j xs' b q1' q2
end

/-! ### readings of statements -/
def wpO (κ : Kc) (mg : Str → Option Value) (W : WX) (T : Option Addr) (Fp F0 H0 : Hp) (D : Ends) (o : O) : Prop := match o with
  | .nx ρ' τ' => ∀ F' H' σ', Sta κ T Fp F0 H0 F' H' σ' ρ' τ' → D.nx σ' H'
  | .bk ρ' τ' => ∀ F' H' σ', Sta κ T Fp F0 H0 F' H' σ' ρ' τ' → D.bk σ' H'
  | .ct ρ' τ' => ∀ F' H' σ', Sta κ T Fp F0 H0 F' H' σ' ρ' τ' → D.ct σ' H'
  | .rt d τ' => ∀ F' H' v, Ext T F0 H0 F' H' τ' → Rep κ T F' v d → D.rt v H'
  | .exc e ρ' τ' => ∀ F' H' σ' cl, Sta κ T Fp F0 H0 F' H' σ' ρ' τ' → mg e = some cl → W cl none σ' H'
  | .no => False
def tS (κ : Kc) (mg : Str → Option Value) (W : WX) (g : G) : TS := fun D σ H => ∃ T Fp F0 H0 F ρ τ, Sta κ T Fp F0 H0 F H σ ρ τ ∧ wpO κ mg W T Fp F0 H0 D (g ρ τ)
abbrev DS (X : Cx) (W : WX) (st : Stmt) (g : G) : Prop := PS X st (tS (kc X) X.mg W g)
abbrev DSs (X : Cx) (W : WX) (st : List Stmt) (g : G) : Prop := PSs X st (tS (kc X) X.mg W g)
def bO {α : Type} (x : M α) (ρ : Env) (k : α → Tin → O) : Tin → O := fun τ => match x τ with
  | .ok a τ1 => k a τ1
  | .exc e τ1 => .exc e ρ τ1
  | .no => .no
theorem bO_ok {α : Type} {x : M α} {ρ : Env} {k : α → Tin → O} {τ τ1 : Tin} {a : α} (h : x τ = .ok a τ1) : bO x ρ k τ = k a τ1 := by
  unfold bO
  rw [h]
theorem bO_pure {α : Type} {a : α} {ρ : Env} {k : α → Tin → O} {τ : Tin} : bO (M.pure a) ρ k τ = k a τ := rfl
theorem bO_bind {α β : Type} {x : M α} {f : α → M β} {ρ : Env} {k : β → Tin → O} {τ : Tin} : bO (M.bind x f) ρ k τ = bO x ρ (fun a τ1 => bO (f a) ρ k τ1) τ := by
  unfold bO M.bind
  cases x τ <;> rfl
section
variable {κ : Kc} {mg : Str → Option Value} {W : WX} {m : Bool} {T : Option Addr} {Fp F0 H0 F H : Hp} {σ : L2.St} {ρ : Env} {τ : Tin} {D : Ends}
theorem bD_of {f : Env → M DL.D} {k : DL.D → Tin → O} (s : Sta κ T Fp F0 H0 F H σ ρ τ) (h : wpO κ mg W T Fp F0 H0 D (bO (f ρ) ρ k τ)) :
    tD κ mg W m f σ H fun v H1 => ∃ F1 τ1 d, Ext T F H F1 H1 τ1 ∧ Sta κ T Fp F0 H0 F1 H1 σ ρ τ1 ∧ RepM m κ T F1 H1 v d ∧ wpO κ mg W T Fp F0 H0 D (k d τ1) := by
  refine ⟨T, F, ρ, τ, s.sr, ?_⟩
  unfold bO at h
  cases e : f ρ τ with
  | ok d τ1 =>
    rw [e] at h
    exact fun v F1 H1 x r => ⟨F1, τ1, d, x, s.ext x, r, h⟩
  | exc c τ1 =>
    rw [e] at h
    exact fun F' H' cl x hm => h F' H' σ cl (s.ext x) hm
  | no => rw [e] at h; exact h
theorem bDs_of {f : Env → M (List DL.D)} {k : List DL.D → Tin → O} (s : Sta κ T Fp F0 H0 F H σ ρ τ) (h : wpO κ mg W T Fp F0 H0 D (bO (f ρ) ρ k τ)) :
    tDs κ mg W m f σ H fun v H1 => ∃ F1 τ1 d, Ext T F H F1 H1 τ1 ∧ Sta κ T Fp F0 H0 F1 H1 σ ρ τ1 ∧ RepMs m κ T F1 H1 v d ∧ wpO κ mg W T Fp F0 H0 D (k d τ1) := by
  refine ⟨T, F, ρ, τ, s.sr, ?_⟩
  unfold bO at h
  cases e : f ρ τ with
  | ok d τ1 =>
    rw [e] at h
    exact fun v F1 H1 x r => ⟨F1, τ1, d, x, s.ext x, r, h⟩
  | exc c τ1 =>
    rw [e] at h
    exact fun F' H' cl x hm => h F' H' σ cl (s.ext x) hm
  | no => rw [e] at h; exact h
theorem bDT_of {f : Env → M Bool} {k : Bool → Tin → O} (s : Sta κ T Fp F0 H0 F H σ ρ τ) (h : wpO κ mg W T Fp F0 H0 D (bO (f ρ) ρ k τ)) :
    tDT κ mg W f σ H fun b H1 => ∃ F1 τ1, Ext T F H F1 H1 τ1 ∧ Sta κ T Fp F0 H0 F1 H1 σ ρ τ1 ∧ wpO κ mg W T Fp F0 H0 D (k b τ1) := by
  refine ⟨T, F, ρ, τ, s.sr, ?_⟩
  unfold bO at h
  cases e : f ρ τ with
  | ok d τ1 =>
    rw [e] at h
    exact fun F1 H1 x => ⟨F1, τ1, x, s.ext x, h⟩
  | exc c τ1 =>
    rw [e] at h
    exact fun F' H' cl x hm => h F' H' σ cl (s.ext x) hm
  | no => rw [e] at h; exact h
end

/-! ### blocks, small statements -/
def sNil : G := fun ρ τ => .nx ρ τ
def seqO (o : O) (g : G) : O := match o with
  | .nx ρ τ => g ρ τ
  | o => o
def sSeq (g h : G) : G := fun ρ τ => seqO (g ρ τ) h
def sNo : G := fun _ _ => .no
def sExpr (f : Env → M D) : G := fun ρ τ => bO (f ρ) ρ (fun _ τ1 => .nx ρ τ1) τ
def sRet (f : Env → M D) : G := fun ρ τ => bO (f ρ) ρ (fun d τ1 => .rt d τ1) τ
def sRetN : G := fun _ τ => .rt .non τ
def sIf (t : Env → M Bool) (g h : G) : G := fun ρ τ => bO (t ρ) ρ (fun c τ1 => if c = true then g ρ τ1 else h ρ τ1) τ
def sSet (i : Nat) (f : Env → M D) : G := fun ρ τ => bO (f ρ) ρ (fun d τ1 => .nx (ρ.set i (.d d)) τ1) τ
def sBrk : G := fun ρ τ => .bk ρ τ
def sCt : G := fun ρ τ => .ct ρ τ
/-- a list of one's own is given up (it is not changed any more) -/
def frz (i : Nat) (ρ : Env) : Env := match ρ[i]? with
  | some (.own xs) => ρ.set i (.d (.lst xs))
  | _ => ρ
def sFrz (i : Nat) (g : G) : G := fun ρ τ => g (frz i ρ) τ
section
variable {X : Cx} {W : WX} {st : Stmt} {rest body : List Stmt} {g h : G} {e c : Expr} {f : Env → M D} {t : Env → M Bool} {pos : Pos}
theorem dss_nil : DSs X W [] sNil := impPSs pss_nil fun D σ H ⟨T, Fp, F0, H0, F, ρ, τ, s, q⟩ => q F H σ s
theorem dss_cons (h1 : DS X W st g) (h2 : DSs X W rest h) : DSs X W (st :: rest) (sSeq g h) := impPSs (pss_cons h1 h2) fun D σ H ⟨T, Fp, F0, H0, F, ρ, τ, s, q⟩ => by
  refine ⟨T, Fp, F0, H0, F, ρ, τ, s, ?_⟩
  unfold sSeq seqO at q
  cases e : g ρ τ with
  | nx ρ1 τ1 =>
    rw [e] at q
    exact fun F' H' σ' s' => ⟨T, Fp, F0, H0, F', ρ1, τ1, s', q⟩
  | _ => rw [e] at q; exact q
theorem dss_one (h1 : DS X W st g) : DSs X W [st] g := pss_one h1
theorem ds_pass : DS X W (.Pass pos) sNil := impPS ps_pass fun D σ H ⟨T, Fp, F0, H0, F, ρ, τ, s, q⟩ => q F H σ s
theorem ds_brk : DS X W (.Break pos) sBrk := impPS ps_break fun D σ H ⟨T, Fp, F0, H0, F, ρ, τ, s, q⟩ => q F H σ s
theorem ds_ct : DS X W (.Continue pos) sCt := impPS ps_continue fun D σ H ⟨T, Fp, F0, H0, F, ρ, τ, s, q⟩ => q F H σ s
theorem ds_no : DS X W st sNo := impPS ps_never fun D σ H ⟨T, Fp, F0, H0, F, ρ, τ, s, q⟩ => q.elim
theorem ds_expr (he : DE X W true e f) (hs : swapsWith e none pos.line X.env = pure false := by rfl) : DS X W (.Expr e pos) (sExpr f) := impPS (ps_expr he hs) fun D σ H ⟨T, Fp, F0, H0, F, ρ, τ, s, q⟩ =>
  tD_mono (bD_of s q) fun v H1 ⟨F1, τ1, d, x1, s1, r1, q1⟩ => q1 F1 H1 σ s1
theorem ds_ret (he : DE X W false e f) : DS X W (.Return (some e) pos) (sRet f) := impPS (ps_ret he) fun D σ H ⟨T, Fp, F0, H0, F, ρ, τ, s, q⟩ =>
  tD_mono (bD_of (m := false) s q) fun v H1 ⟨F1, τ1, d, x1, s1, r1, q1⟩ => q1 F1 H1 v s1.ex r1
theorem ds_retN : DS X W (.Return none pos) sRetN := impPS ps_retN fun D σ H ⟨T, Fp, F0, H0, F, ρ, τ, s, q⟩ => q F H _ s.ex .non
theorem ds_if {a b : List Stmt} (hc : DT X W c t) (ha : DSs X W a g) (hb : DSs X W b h) : DS X W (.If c a b pos) (sIf t g h) := impPS (ps_if hc ha hb) fun D σ H ⟨T, Fp, F0, H0, F, ρ, τ, s, q⟩ =>
  tDT_mono (bDT_of s q) fun c H1 ⟨F1, τ1, x1, s1, q1⟩ => by
    cases c with
    | true => exact ⟨T, Fp, F0, H0, F1, ρ, τ1, s1, q1⟩
    | false => exact ⟨T, Fp, F0, H0, F1, ρ, τ1, s1, q1⟩
theorem ds_set {x : Str} {pos' : Pos} (i : Nat) (hN : X.N.Nodup) (he : DE X W false e f) (hi : X.N[i]? = some x := by rfl) (hx : Loc X.env.scope x := by first | exact .inl rfl | exact .inr rfl)
    (hs : swapsWith e (some (.Name x pos')) pos.line X.env = pure false := by rfl) (hf : X.fn x = true ∨ X.env.scope.names.lookup x = some .local := by first | exact .inl rfl | exact .inr rfl | assumption) :
    DS X W (.Assign [.Name x pos'] e pos) (sSet i f) := impPS (ps_set hN hi hx he hs hf) fun D σ H ⟨T, Fp, F0, H0, F, ρ, τ, s, q⟩ =>
  tD_mono (bD_of (m := false) s q) fun v H1 ⟨F1, τ1, d, x1, s1, r1, q1⟩ => q1 F1 H1 _ (s1.set i r1)
theorem Sta.frz {κ : Kc} {T : Option Addr} {Fp F0 H0 F H : Hp} {σ : L2.St} {ρ : Env} {τ : Tin} (s : Sta κ T Fp F0 H0 F H σ ρ τ) (i : Nat) : ∃ F', Sta κ T Fp F0 H0 F' H σ (frz i ρ) τ := by
  unfold DL.frz
  cases hi : ρ[i]? with
  | none => exact ⟨F, s⟩
  | some u =>
    cases u with
    | un => exact ⟨F, s⟩
    | d d => exact ⟨F, s⟩
    | own xs =>
      obtain ⟨v, hv, a, vs, rfl, h1, h2, h3, h4⟩ := s.sr.slot i _ hi
      have h0 := s.ow i xs a hi hv
      have le : Same F (upd F a (.lst vs)) := fun c o q => by rw [upd_ne (ne_of_none q h2)]; exact q
      have bs : Bs T (upd F a (.lst vs)) H τ := ⟨fun c o q => by
        by_cases hc : c = a
        · subst hc; rw [upd_same] at q; rw [h1]; exact q
        · rw [upd_ne hc] at q; exact s.sr.bs.le _ _ q, fun c q => ⟨by
          have : c ≠ a := fun z => by subst z; exact h3 q
          rw [upd_ne this]; exact (s.sr.bs.tn c q).1, (s.sr.bs.tn c q).2⟩⟩
      have own : ∀ (j : Nat) (ys : List D), (ρ.set i (.d (.lst xs)))[j]? = some (.own ys) → i ≠ j ∧ ρ[j]? = some (.own ys) := fun j ys q => by
        rcases get_set q with ⟨_, e, _⟩ | z
        · cases e
        · exact z
      refine ⟨upd F a (.lst vs), ⟨bs, by rw [List.length_set, s.sr.len], fun j x h => ?_, fun j k ys zs b q1 q2 q3 q4 => s.sr.apart j k ys zs b (own j ys q1).2 (own k zs q2).2 q3 q4⟩,
        ⟨s.ex.keep, s.ex.le.trans le, bs.le, fun c o q => ?_, bs.tn⟩, fun j ys b q1 q2 => s.ow j ys b (own j ys q1).2 q2, s.pin.trans le⟩
      · rcases get_set h with ⟨e, e2, hl⟩ | ⟨ne, h⟩
        · subst e e2
          exact ⟨_, hv, _, rfl, .lst upd_same (h4.mono le)⟩
        · obtain ⟨u, hu, q⟩ := s.sr.slot j x h
          refine ⟨u, hu, ?_⟩
          cases x with
          | un => trivial
          | d d => obtain ⟨x, e1, e2⟩ := q; exact ⟨x, e1, e2.mono le⟩
          | own zs =>
            obtain ⟨c, us, e1, e2, e3, e4, e5⟩ := q
            subst e1
            have nc : c ≠ a := fun z => by subst z; exact ne (s.sr.apart i j xs zs c hi h hv hu)
            exact ⟨c, us, rfl, e2, by rw [upd_ne nc]; exact e3, e4, e5.mono le⟩
      · by_cases hc : c = a
        · subst hc; exact .inr h0
        · rw [upd_ne hc] at q; exact s.ex.new c o q
theorem ds_frz (i : Nat) (h1 : DS X W st g) : DS X W st (sFrz i g) := impPS h1 fun D σ H ⟨T, Fp, F0, H0, F, ρ, τ, s, q⟩ =>
  let ⟨F', s'⟩ := s.frz i
  ⟨T, Fp, F0, H0, F', frz i ρ, τ, s', q⟩
theorem dss_frz (i : Nat) (h1 : DSs X W rest g) : DSs X W rest (sFrz i g) := impPSs h1 fun D σ H ⟨T, Fp, F0, H0, F, ρ, τ, s, q⟩ =>
  let ⟨F', s'⟩ := s.frz i
  ⟨T, Fp, F0, H0, F', frz i ρ, τ, s', q⟩
end
end DL
end

section
set_option Elab.async false
set_option linter.all false
set_option maxRecDepth 100000
set_option maxHeartbeats 2000000
/-! DLH: targets, fresh lists, loops, comprehensions over data -/
namespace DL
open PySem PySem.Spec PyProof.Rows L2

/-! ### targets -/
/-- beyond the slots is, all is as it was -/
def Apart (is : List Nat) (σ σ' : L2.St) (ρ ρ' : Env) : Prop := σ'.length = σ.length ∧ ρ'.length = ρ.length ∧ (∀ j, j ∉ is → σ'[j]? = σ[j]? ∧ ρ'[j]? = ρ[j]?) ∧ ∀ (j : Nat) (xs : List D), ρ'[j]? = some (.own xs) → ρ[j]? = some (.own xs) ∧ σ'[j]? = σ[j]?
def tG (κ : Kc) (is : List Nat) (g : D → Env → Option Env) : TG := fun v σ H Q => ∃ T F ρ τ d, SR κ T F H σ ρ τ ∧ Rep κ T F v d ∧ ∃ ρ', g d ρ = some ρ' ∧ ∀ σ', SR κ T F H σ' ρ' τ → Apart is σ σ' ρ ρ' → Q σ' H
def tGs (κ : Kc) (is : List Nat) (g : List D → Env → Option Env) : TGs := fun vs σ H Q => ∃ T F ρ τ ds, SR κ T F H σ ρ τ ∧ RepAll κ T F vs ds ∧ ∃ ρ', g ds ρ = some ρ' ∧ ∀ σ', SR κ T F H σ' ρ' τ → Apart is σ σ' ρ ρ' → Q σ' H
abbrev DG (X : Cx) (is : List Nat) (e : Expr) (g : D → Env → Option Env) : Prop := PG X e (tG (kc X) is g)
abbrev DGs (X : Cx) (is : List Nat) (es : List Expr) (g : List D → Env → Option Env) : Prop := PGs X es (tGs (kc X) is g)
theorem impPG {X : Cx} {e : Expr} {t t' : TG} (h : PG X e t) (i : ∀ v σ H Q, t' v σ H Q → t v σ H Q) : PG X e t' := ⟨fun pins s σ H v u Q I r q => h.run pins s σ H v u Q I r (i v σ H Q q)⟩
theorem impPGs {X : Cx} {es : List Expr} {t t' : TGs} (h : PGs X es t) (i : ∀ v σ H Q, t' v σ H Q → t v σ H Q) : PGs X es t' := ⟨fun pins s σ H v u Q I r q => h.run pins s σ H v u Q I r (i v σ H Q q)⟩
def gN (i : Nat) : D → Env → Option Env := fun d ρ => some (ρ.set i (.d d))
def gT (n : Nat) (g : List D → Env → Option Env) : D → Env → Option Env := fun d ρ => match d with
  | .tup xs => if xs.length = n then g xs ρ else none
  | _ => none
def gsN : List D → Env → Option Env := fun ds ρ => match ds with
  | [] => some ρ
  | _ => none
def gsC (g : D → Env → Option Env) (h : List D → Env → Option Env) : List D → Env → Option Env := fun ds ρ => match ds with
  | [] => none
  | d :: ds => (g d ρ).bind (h ds)
section
variable {κ : Kc} {T : Option Addr} {F H : Hp} {σ : L2.St} {ρ : Env} {τ : Tin} {v : V} {d : D}
theorem SR.set (s : SR κ T F H σ ρ τ) (i : Nat) (r : Rep κ T F v d) : SR κ T F H (σ.set i (some v)) (ρ.set i (.d d)) τ ∧ Apart [i] σ (σ.set i (some v)) ρ (ρ.set i (.d d)) := by
  have own : ∀ (j : Nat) (xs : List D), (ρ.set i (.d d))[j]? = some (.own xs) → i ≠ j ∧ ρ[j]? = some (.own xs) := fun j xs h1 => by
    rcases get_set h1 with ⟨_, e, _⟩ | z
    · cases e
    · exact z
  refine ⟨⟨s.bs, by rw [List.length_set, List.length_set, s.len], fun j x h => ?_, fun j k xs ys a h1 h2 h3 h4 => ?_⟩, List.length_set, List.length_set, fun j hj => ?_, fun j xs h => ?_⟩
  · rcases get_set h with ⟨e, e2, hl⟩ | ⟨ne, h⟩
    · subst e e2
      exact ⟨some v, List.getElem?_set_self (by rw [s.len]; exact hl), v, rfl, r⟩
    · rw [List.getElem?_set_ne ne]
      exact s.slot j x h
  · obtain ⟨n1, a1⟩ := own j xs h1
    obtain ⟨n2, b1⟩ := own k ys h2
    rw [List.getElem?_set_ne n1] at h3
    rw [List.getElem?_set_ne n2] at h4
    exact s.apart j k xs ys a a1 b1 h3 h4
  · have ne : i ≠ j := fun e => hj (by rw [e]; exact List.mem_singleton_self j)
    exact ⟨List.getElem?_set_ne ne, List.getElem?_set_ne ne⟩
  · obtain ⟨n1, a1⟩ := own j xs h
    exact ⟨a1, List.getElem?_set_ne n1⟩
theorem Apart.refl {is : List Nat} {σ : L2.St} {ρ : Env} : Apart is σ σ ρ ρ := ⟨rfl, rfl, fun _ _ => ⟨rfl, rfl⟩, fun _ _ h => ⟨h, rfl⟩⟩
theorem Apart.trans {is js : List Nat} {σ σ1 σ2 : L2.St} {ρ ρ1 ρ2 : Env} (a : Apart is σ σ1 ρ ρ1) (b : Apart js σ1 σ2 ρ1 ρ2) : Apart (is ++ js) σ σ2 ρ ρ2 := by
  refine ⟨b.1.trans a.1, b.2.1.trans a.2.1, fun j hj => ?_, fun j xs h => ?_⟩
  · obtain ⟨h1, h2⟩ := b.2.2.1 j fun z => hj (List.mem_append_right _ z)
    obtain ⟨h3, h4⟩ := a.2.2.1 j fun z => hj (List.mem_append_left _ z)
    exact ⟨h1.trans h3, h2.trans h4⟩
  · obtain ⟨h1, h2⟩ := b.2.2.2 j xs h
    obtain ⟨h3, h4⟩ := a.2.2.2 j xs h1
    exact ⟨h3, h2.trans h4⟩
theorem Sta.apart {Fp F0 H0 : Hp} {σ' : L2.St} {ρ' : Env} {is : List Nat} (s : Sta κ T Fp F0 H0 F H σ ρ τ) (s' : SR κ T F H σ' ρ' τ) (a : Apart is σ σ' ρ ρ') : Sta κ T Fp F0 H0 F H σ' ρ' τ :=
  ⟨s', s.ex, fun i xs b h1 h2 => let ⟨h3, h4⟩ := a.2.2.2 i xs h1; s.ow i xs b h3 (h4.symm.trans h2), s.pin⟩
end
section
variable {X : Cx} {W : WX} {e : Expr} {es : List Expr} {pos : Pos}
theorem dg_name {x : Str} (i : Nat) (hN : X.N.Nodup) (hi : X.N[i]? = some x := by rfl) (hx : Loc X.env.scope x := by first | exact .inl rfl | exact .inr rfl)
    (hf : X.fn x = true ∨ X.env.scope.names.lookup x = some .local := by first | exact .inl rfl | exact .inr rfl | assumption) : DG X [i] (.Name x pos) (gN i) :=
  impPG (pg_name hN hi hx hf) fun v σ H Q ⟨T, F, ρ, τ, d, s, r, ρ', e, q⟩ => by
    cases e
    obtain ⟨s1, a1⟩ := s.set i r
    exact q _ s1 a1
theorem dgs_nil : DGs X [] [] gsN := impPGs pgs_nil fun vs σ H Q ⟨T, F, ρ, τ, ds, s, r, ρ', e, q⟩ => by
  cases r with
  | nil => cases e; exact ⟨rfl, q _ s .refl⟩
  | cons _ _ => cases e
theorem dgs_cons {is js : List Nat} {g : D → Env → Option Env} {h : List D → Env → Option Env} (h1 : DG X is e g) (h2 : DGs X js es h) (hs : (assignEach (e :: es) X.env).map (·.2) = assign e X.env :: (assignEach es X.env).map (·.2) := by rfl) :
    DGs X (is ++ js) (e :: es) (gsC g h) := impPGs (pgs_cons h1 h2 hs) fun vs σ H Q ⟨T, F, ρ, τ, ds, s, r, ρ', e, q⟩ => by
  cases r with
  | nil => cases e
  | @cons v vs d ds r t =>
    have e : (g d ρ).bind (h ds) = some ρ' := e
    cases e1 : g d ρ with
    | none => rw [e1] at e; cases e
    | some ρ1 =>
      rw [e1] at e
      exact ⟨v, vs, rfl, T, F, ρ, τ, d, s, r, ρ1, e1, fun σ1 s1 a1 => ⟨T, F, ρ1, τ, ds, s1, t, ρ', e, fun σ2 s2 a2 => q σ2 s2 (a1.trans a2)⟩⟩
theorem dg_tup {k n : Nat} {is : List Nat} {g : List D → Env → Option Env} (hc : X.calm = true) (h : DGs X is es g) (hn : (assignEach es X.env).length = n := by rfl) (hst : (assignEach es X.env).findIdx? (·.1) = none := by rfl) :
    DG X is (.Tuple es k pos) (gT n g) := impPG (pg_tup hc h hn hst) fun v σ H Q ⟨T, F, ρ, τ, d, s, r, ρ', e, q⟩ => by
  cases r with
  | @tup a vs ds hq hr =>
    have e : (if ds.length = n then g ds ρ else none) = some ρ' := e
    split at e
    · rename_i hl2
      exact ⟨a, vs, rfl, seqT s.bs.le hq, hr.length.trans hl2, T, F, ρ, τ, ds, s, hr, ρ', e, q⟩
    · cases e
  | _ => cases e
def sAsg (f : Env → M D) (g : D → Env → Option Env) : G := fun ρ τ => bO (f ρ) ρ (fun d τ1 => match g d ρ with
  | some ρ1 => .nx ρ1 τ1
  | none => .no) τ
theorem ds_asg {tg : Expr} {f : Env → M D} {is : List Nat} {g : D → Env → Option Env} (he : DE X W false e f) (hg : DG X is tg g) (hs : swapsWithSole [tg] e pos.line X.env = pure false := by rfl) (hw : swappedStores [tg] e X.env = pure none := by rfl)
    (h1 : (assignEach [tg] X.env).map (·.2) = [assign tg X.env] := by rfl) : DS X W (.Assign [tg] e pos) (sAsg f g) := impPS (ps_asg he hg hs hw h1) fun D σ H ⟨T, Fp, F0, H0, F, ρ, τ, s, q⟩ =>
  tD_mono (bD_of (m := false) s q) fun v H1 ⟨F1, τ1, d, x1, s1, r1, q1⟩ => by
    cases e1 : g d ρ with
    | none => rw [e1] at q1; exact q1.elim
    | some ρ1 =>
      rw [e1] at q1
      exact ⟨T, F1, ρ, τ1, d, s1.sr, r1, ρ1, e1, fun σ' s' a' => q1 F1 H1 σ' (s1.apart s' a')⟩
end

/-! ### fresh lists -/
def freshP (κ : Kc) (T : Option Addr) (F H : Hp) (Q : VK) : List D → Tin → Prop := fun ds τ' =>
  ∀ a vs F' H', Ext T F H F' H' τ' → H a = none → F' a = none → H' a = some (.lst vs) → T ≠ some a → RepAll κ T F' vs ds → Q (.ref a) H'
def tF (κ : Kc) (mg : Str → Option Value) (W : WX) (f : Env → M (List D)) : TE := fun σ H Q => ∃ T F ρ τ, SR κ T F H σ ρ τ ∧ wpR (f ρ τ) (freshP κ T F H Q) (wX mg W T F H σ)
abbrev DF (X : Cx) (W : WX) (e : Expr) (f : Env → M (List D)) : Prop := PE X e (tF (kc X) X.mg W f)
def dOf (f : Env → M (List D)) : Env → M D := fun ρ => M.bind (f ρ) fun xs => M.pure (.lst xs)
section
variable {κ : Kc} {T : Option Addr} {F H F' H' : Hp} {τ τ' : Tin} {a : Addr} {vs : List V}
/-- a list that is not of what stays is taken to it -/
theorem Ext.take (x : Ext T F H F' H' τ') (h0 : H a = none) (h1 : F' a = none) (h2 : H' a = some (.lst vs)) (h3 : T ≠ some a) : Ext T F H (upd F' a (.lst vs)) H' τ' ∧ Same F' (upd F' a (.lst vs)) := by
  have le : Same F' (upd F' a (.lst vs)) := fun c o q => by rw [upd_ne (ne_of_none q h1)]; exact q
  refine ⟨⟨x.keep, x.le.trans le, fun c o q => ?_, fun c o q => ?_, fun c q => ⟨?_, (x.tn c q).2⟩⟩, le⟩
  · by_cases hc : c = a
    · subst hc; rw [upd_same] at q; rw [h2]; exact q
    · rw [upd_ne hc] at q; exact x.sub _ _ q
  · by_cases hc : c = a
    · subst hc; exact .inr h0
    · rw [upd_ne hc] at q; exact x.new _ _ q
  · rw [upd_ne (fun z => by subst z; exact h3 q)]
    exact (x.tn c q).1
end
section
variable {X : Cx} {W : WX} {m : Bool} {e : Expr} {es : List Expr} {f fs : Env → M (List D)} {pos : Pos}
/-- a fresh list as a value -/
theorem de_fresh (h : DF X W e f) : DE X W m e (dOf f) := impPE h fun σ H Q ⟨T, F, ρ, τ, s, q⟩ => ⟨T, F, ρ, τ, s, wpR_mono (wpR_bind q) (fun ds τ' q a vs F' H' x h0 h1 h2 h3 r => by
  obtain ⟨x2, le⟩ := x.take h0 h1 h2 h3
  exact q (.ref a) _ H' x2 (repM (.lst upd_same (r.mono le)))) fun _ _ z => z⟩
def fLst (fs : Env → M (List D)) : Env → M (List D) := fun ρ => M.bind (fs ρ) fun xs => if fits xs = true then M.pure xs else M.no
theorem T_ne {T : Option Addr} {F H : Hp} {τ : Tin} {a : Addr} (b : Bs T F H τ) (h : H a = none) : T ≠ some a := fun z => by
  rw [(b.tn a z).2] at h; cases h
theorem df_lst (h : DA X W false es fs) : DF X W (.List es pos) (fLst fs) := impPE (pe_lst h) fun σ H Q ⟨T, F, ρ, τ, s, q⟩ => by
  refine tDs_mono (tDs_of (m := false) s s.bs.refl q) fun xs H1 ⟨F1, τ1, ds, x1, y1, s1, r1, q1⟩ => ?_
  split at q1
  · rename_i hf
    refine ⟨by rw [r1.length]; exact fits_le hf, fun p hp => ?_⟩
    have x2 := s1.bs.aside (o := .lst xs) hp
    have hp0 : H p = none := by
      cases z : H p with
      | none => rfl
      | some o =>
        by_cases ht : T = some p
        · rw [(s1.bs.tn p ht).2] at hp; cases hp
        · rw [x1.keep p o z ht] at hp; cases hp
    exact q1 p xs _ _ (x1.trans x2) hp0 (Same.free s1.bs.le hp) upd_same (T_ne s1.bs hp) r1.all
  · exact q1.elim
/-- list(..) of a list or a tuple -/
def fItems (fa : Env → M D) : Env → M (List D) := fun ρ => M.bind (fa ρ) fun x => M.lift (itemsD x)
theorem was_free {T : Option Addr} {F H F1 H1 : Hp} {τ1 : Tin} {p : Addr} (x1 : Ext T F H F1 H1 τ1) (hp : H1 p = none) : H p = none := by
  cases z : H p with
  | none => rfl
  | some o =>
    by_cases ht : T = some p
    · rw [(x1.tn p ht).2] at hp; cases hp
    · rw [x1.keep p o z ht] at hp; cases hp
theorem df_listOf {fa : Env → M D} {p : Pos} (hg : Gl X "list") (hm : X.mg "list" = none) (ha : DE X W true e fa)
    (he : starEach [e] X.env = (false, eval e X.env) :: starEach [] X.env := by rfl) (hpl : (backTo pos (starEach [] X.env)).any (·.1) = false := by rfl) : DF X W (.Call (.Name "list" p) [e] [] pos) (fItems fa) :=
  impPE (pe_callTy call_list_of hg hm (by decide +kernel) (pa_cons ha pa_nil he) (by decide) (by decide) he hpl) fun σ H Q ⟨T, F, ρ, τ, s, q⟩ =>
    tD_mono (tD_of (m := true) s s.bs.refl q) fun x H1 ⟨F1, τ1, d, x1, y1, s1, r1, q1⟩ => by
      obtain ⟨ds, e1, q2⟩ := wpR_lift q1
      have go : ∀ (p : Addr) (vs : List V), x = .ref p → SqL X.K H1 p vs ∨ SqT X.K H1 p vs → RepAll (kc X) T F1 vs ds → ∃ p ys, [x] = [V.ref p] ∧ (SqL X.K H1 p ys ∨ SqT X.K H1 p ys) ∧ ∀ l, H1 l = none → Q (.ref l) (upd H1 l (.lst ys)) := fun p vs ex hq rv =>
        ⟨p, vs, by rw [ex], hq, fun l hl => q2 l vs _ _ (x1.trans (s1.bs.aside hl)) (was_free x1 hl) (Same.free s1.bs.le hl) upd_same (T_ne s1.bs hl) rv⟩
      cases d with
      | tup ys =>
        cases e1
        obtain ⟨p, vs, ex, hq, rv⟩ := RepTop.tup r1
        exact go p vs ex (.inr (seqT s1.bs.le hq)) rv
      | lst ys =>
        cases e1
        obtain ⟨p, vs, ex, hq, rv⟩ := RepTop.lst r1 s1.bs.le
        exact go p vs ex (.inl (SqL.of hq)) rv
      | _ => cases e1
end

/-! ### what is walked -/
/-- J walks through ds while F1 stays -/
def ItD (κ : Kc) (T : Option Addr) (F1 : Hp) (J : It) (ds : List D) : Prop := ∃ Y, Walk J ds.length (fun H => Same F1 H) Y ∧
  ∀ (i : Nat) (d : D) (H : Hp) (x : V) (H' F : Hp) (τ : Tin), ds[i]? = some d → Y i H x H' → Bs T F H τ → Same F1 F → ∃ F', Ext T F H F' H' τ ∧ Rep κ T F' x d
def tI (κ : Kc) (mg : Str → Option Value) (W : WX) (f : Env → M (List D)) : TI := fun σ H R => ∃ T F ρ τ, SR κ T F H σ ρ τ ∧
  wpR (f ρ τ) (fun ds τ' => ∀ J F' H', Ext T F H F' H' τ' → ItD κ T F' J ds → R J H') (wX mg W T F H σ)
abbrev DI (X : Cx) (W : WX) (tg iter : Expr) (f : Env → M (List D)) : Prop := PI X tg iter (tI (kc X) X.mg W f)
theorem impPI {X : Cx} {tg iter : Expr} {t t' : TI} (h : PI X tg iter t) (i : ∀ σ H R, t' σ H R → t σ H R) : PI X tg iter t' := ⟨fun pins s σ H R I q => h.run pins s σ H R I (i σ H R q)⟩
section
variable {κ : Kc} {T : Option Addr} {F F1 H : Hp} {a b : Addr} {vs ws : List V} {ds es : List D}
theorem yat {xs : List V} (r : RepAll κ T F1 xs ds) : ∀ (i : Nat) (d : D) (H : Hp) (x : V) (H' F : Hp) (τ : Tin), ds[i]? = some d → YAt xs i H x H' → Bs T F H τ → Same F1 F → ∃ F', Ext T F H F' H' τ ∧ Rep κ T F' x d :=
  fun i d H x H' F τ hd ⟨e, hx⟩ b le => by
    subst e
    obtain ⟨v, hv, rv⟩ := r.get hd
    rw [hx] at hv
    cases hv
    exact ⟨F, b.refl, rv.mono le⟩
theorem it_lst (h : F1 a = some (.lst vs)) (r : RepAll κ T F1 vs ds) : ItD κ T F1 (Itl κ.K a) ds :=
  ⟨YAt vs, by rw [← r.length]; exact walk_list.mono (fun H le => SqL.of (le _ _ h)) fun _ _ _ _ _ _ y => y, yat r⟩
theorem it_tup (h : SqT κ.K F1 a vs) (r : RepAll κ T F1 vs ds) : ItD κ T F1 (Itt κ.K a) ds :=
  ⟨YAt vs, by rw [← r.length]; exact walk_tup.mono (fun H le => seqT le h) fun _ _ _ _ _ _ y => y, yat r⟩
def rangeD (lo : Int) (n : Nat) : List D := (List.range n).map fun i => .int (lo + (i : Nat))
theorem it_rng {lo : Int} {n : Nat} : ItD κ T F1 (Itr lo n) (rangeD lo n) := by
  refine ⟨YFn fun i => .int (lo + i), ?_, fun i d H x H' F τ hd ⟨e, hx⟩ b le => ?_⟩
  · have e : (rangeD lo n).length = n := by unfold rangeD; rw [List.length_map, List.length_range]
    rw [e]
    exact walk_range.mono (fun _ _ => trivial) fun _ _ _ _ _ _ y => y
  · subst e hx
    unfold rangeD at hd
    rw [List.getElem?_map] at hd
    cases e : (List.range n)[i]? with
    | none => rw [e] at hd; cases hd
    | some j =>
      rw [e] at hd
      cases hd
      have ej : j = i := by
        obtain ⟨h1, h2⟩ := List.getElem?_eq_some_iff.mp e
        rw [List.getElem_range] at h2
        exact h2.symm
      subst ej
      exact ⟨F, b.refl, .int _⟩
/-- pairs, made as one goes -/
def pairD (ds es : List D) : List D := (ds.zip es).map fun p => .tup [p.1, p.2]
theorem ypair {xs ys : Nat → Option V} (r1 : ∀ i d x, ds[i]? = some d → xs i = some x → Rep κ T F1 x d) (r2 : ∀ i d x, es[i]? = some d → ys i = some x → Rep κ T F1 x d) :
    ∀ (i : Nat) (d : D) (H : Hp) (x : V) (H' F : Hp) (τ : Tin), (pairD ds es)[i]? = some d → YPair xs ys i H x H' → Bs T F H τ → Same F1 F → ∃ F', Ext T F H F' H' τ ∧ Rep κ T F' x d :=
  fun i d H x H' F τ hd ⟨p, u, v, e1, hp, e2, h1, h2⟩ b le => by
    subst e1 e2
    unfold pairD at hd
    rw [List.getElem?_map] at hd
    cases e : (ds.zip es)[i]? with
    | none => rw [e] at hd; cases hd
    | some q =>
      rw [e] at hd
      cases hd
      rw [List.getElem?_zip_eq_some] at e
      have x1 := b.push (o := .tup [u, v]) hp
      exact ⟨_, x1, .tup (SqT.of upd_same) (.cons (((r1 i _ u e.1 h1).mono le).mono x1.le) (.cons (((r2 i _ v e.2 h2).mono le).mono x1.le) .nil))⟩
end
section
variable {X : Cx} {W : WX} {tg l e e2 : Expr} {f fa fb : Env → M D} {fs : Env → M (List D)} {p pos : Pos}
def iSeq (f : Env → M D) : Env → M (List D) := fun ρ => M.bind (f ρ) fun x => M.lift (itemsD x)
theorem di_seq (he : DE X W false l f) : DI X W tg l (iSeq f) := by
  refine ⟨fun pins s0 σ H R I ⟨T, F, ρ, τ, s, q⟩ => ?_⟩
  refine thn (he.run pins s0 σ H _ I (tD_of (m := false) s s.bs.refl q)) fun u s1 ⟨x, H1, I1, ru, F1, τ1, d, x1, y1, sr1, r1, q1⟩ => ?_
  obtain ⟨ds, e1, q2⟩ := wpR_lift q1
  have r1 : Rep (kc X) T F1 x d := r1
  cases r1 with
  | @tup a vs es hq hr =>
    cases e1
    cases ru
    obtain ⟨its, rv, pt, hz⟩ := I1.tuple (seqT sr1.bs.le hq)
    refine wpAny_pyIter_tuple (show s1.heap.IsTuple a its.toArray from pt) ⟨s1.heap.objs.size, [s1.heap.objs.size], _, Itt X.K a, H1, rfl, I1.kept (t' := s1.toks) fun b o z => Heap.get?_push_of_some _ z, turn_tuple a _,
      ⟨_, Heap.get?_push_size _ rfl, rfl, rfl⟩, fun b hb => ?_, q2 _ F1 H1 x1 (it_tup hq hr)⟩
    obtain rfl : b = s1.heap.objs.size := by simpa using hb
    exact I1.fpOk (Nat.le_refl _) (I1.hok.fresh (Nat.le_refl _))
  | @lst a vs es hq hr =>
    cases e1
    cases ru
    obtain ⟨its, rv, pl, hz⟩ := I1.list (SqL.of (sr1.bs.le _ _ hq))
    refine wpAny_pyIter_list pl.isList ⟨s1.heap.objs.size, [s1.heap.objs.size], _, Itl X.K a, H1, rfl, I1.kept (t' := s1.toks) fun b o z => Heap.get?_push_of_some _ z, turn_list a _,
      ⟨_, Heap.get?_push_size _ rfl, rfl, rfl⟩, fun b hb => ?_, q2 _ F1 H1 x1 (it_lst hq hr)⟩
    obtain rfl : b = s1.heap.objs.size := by simpa using hb
    exact I1.fpOk (Nat.le_refl _) (I1.hok.fresh (Nat.le_refl _))
  | _ => cases e1
def inRng (i : Int) : Bool := decide (-(2 ^ 62) ≤ i) && decide (i < 2 ^ 62)
theorem turn_long {P : Program} {w : World} {K : PySem.W.Frag} {tg : Expr} (it : Addr) (lo : Int) (n : Nat) : Turn P w K tg (Itr lo n) [it] it (fun i h => IsLongIter h it (lo + (i : Nat) * 1) ((n : Int) - (i : Nat)) 1) where
  mem := by simp
  obj := fun i h st b hb => by
    have e : b = it := by simpa using hb
    subst e
    exact ⟨_, st, fun v z => by
      have z' : Data.fields _ = Data.cell v := z
      cases z'⟩
  keep := fun i h h' st k => k it (by simp) _ st
  item := by
    intro X hP hw hK hc i pins s σ H E I hf st hg
    subst hP hw hK
    obtain ⟨f0, f1, f2, f3, f4, f5⟩ := hf it (by simp)
    have W := Walks.longrange (prog := X.prog) (w := X.w) (I.ok.hd hc) it lo 1 n
    refine W.item i s _ _ hg st fun v h' tk hv st' kk => ?_
    obtain ⟨t, rfl⟩ := hv
    have I1 : Inv X pins σ H { s with heap := h', toks := tk } := I.turned (fun b o hb e => kk b o (by simpa using hb) e) f0 f1 f3 f4 f5
    refine ⟨_, rfl, go_of (s := { s with heap := h', toks := tk }) (n := "longrange_iterator") st' rfl rfl (by decide) ⟨.int (lo + i), H, I1, ⟨t, ?_⟩, ⟨rfl, rfl⟩, st', fun b hb => (hf b hb).1⟩⟩
    rw [Int.mul_one]
  done := by
    intro X hP hw hK hc i pins s σ H E I hf st hg
    subst hP hw hK
    obtain ⟨f0, f1, f2, f3, f4, f5⟩ := hf it (by simp)
    exact wpAny_pyNext_long_end (I.ok.hd hc) st (by have : n ≤ i := hg; omega) fun h' eb => ⟨rfl, I.turned (t' := s.toks) (fun b o hb e => eb b o hb e) f0 f1 f3 f4 f5⟩
  self := fun _ _ _ _ _ st h => wpAny_pyIter_longiter st h
/-- a range object just made, walked; bounds of any size -/
theorem range_itA {pins : List (Addr × Obj)} {σ : L2.St} {H : Hp} {s : Shared} {R : It → Hp → Prop} {E : Value → Shared → Prop} {lo hi : Int} {t u v : Tok} {tk : Nat} (I : Inv X pins σ H s)
    (q : R (Itr lo (hi - lo).toNat) H) : wpAny (model X.prog X.w) X.A (pyIter (.ref s.heap.objs.size)) (PIE X pins σ tg R) E { s with heap := s.heap.push { cls := .type "range", data := .fields #[.int lo t, .int hi u, .int 1 v] }, toks := tk } := by
  have I1 : Inv X pins σ H { s with heap := s.heap.push { cls := .type "range", data := .fields #[.int lo t, .int hi u, .int 1 v] }, toks := tk } := I.kept fun b o e => Heap.get?_push_of_some _ e
  have e1 : lo + ((0 : Nat) : Int) * 1 = lo := by simp
  have e2 : (((hi - lo).toNat : Nat) : Int) - ((0 : Nat) : Int) = Builtin.Range.rangeSize lo hi 1 := by rw [rangeSize_one]; split <;> omega
  cases hsm : Builtin.Range.small lo hi 1 with
  | true =>
    refine wpAny_pyIter_range (IsRange.new ..) hsm ?_
    refine ⟨(s.heap.push { cls := .type "range", data := .fields #[.int lo t, .int hi u, .int 1 v] }).objs.size, [(s.heap.push { cls := .type "range", data := .fields #[.int lo t, .int hi u, .int 1 v] }).objs.size], _, _, H, rfl,
      I1.kept (t' := tk) fun b o e => Heap.get?_push_of_some _ e, turn_range _ lo (hi - lo).toNat, ?_, fun b hb => ?_, q⟩
    · show IsRangeIter _ _ (lo + ((0 : Nat) : Int) * 1) ((((hi - lo).toNat : Nat) : Int) - ((0 : Nat) : Int)) 1
      rw [e1, e2]
      exact Heap.get?_push_size _ rfl
    · have e : b = (s.heap.push { cls := .type "range", data := .fields #[.int lo t, .int hi u, .int 1 v] }).objs.size := by simpa using hb
      subst e
      exact I1.fpOk (Nat.le_refl _) (I1.hok.fresh (Nat.le_refl _))
  | false =>
    refine wpAny_pyIter_longrange (IsRange.new ..) hsm ?_
    refine ⟨(s.heap.push { cls := .type "range", data := .fields #[.int lo t, .int hi u, .int 1 v] }).objs.size, [(s.heap.push { cls := .type "range", data := .fields #[.int lo t, .int hi u, .int 1 v] }).objs.size], _, _, H, rfl,
      I1.kept (t' := tk) fun b o e => Heap.get?_push_of_some _ e, turn_long _ lo (hi - lo).toNat, ?_, fun b hb => ?_, q⟩
    · show IsLongIter _ _ (lo + ((0 : Nat) : Int) * 1) ((((hi - lo).toNat : Nat) : Int) - ((0 : Nat) : Int)) 1
      rw [e1, e2]
      exact Heap.get?_push_size _ rfl
    · have e : b = (s.heap.push { cls := .type "range", data := .fields #[.int lo t, .int hi u, .int 1 v] }).objs.size := by simpa using hb
      subst e
      exact I1.fpOk (Nat.le_refl _) (I1.hok.fresh (Nat.le_refl _))
def iRngA1 (ta : TA) : TI := fun σ H R => ta σ H fun vs H1 => ∃ j : Int, vs = [.int j] ∧ R (Itr 0 j.toNat) H1
def iRngA2 (ta : TA) : TI := fun σ H R => ta σ H fun vs H1 => ∃ i j : Int, vs = [.int i, .int j] ∧ R (Itr i (j - i).toNat) H1
theorem pi_rangeA1 {a : Expr} {ta : TA} (hg : Gl X "range") (hm : X.mg "range" = none) (ha : PA X [a] ta) (hs : starEach [a] X.env = [(false, eval a X.env)] := by rfl) : PI X tg (.Call (.Name "range" p) [a] [] pos) (iRngA1 ta) := by
  refine ⟨fun pins s σ H R I h => ?_⟩
  refine Call_ (ld_blt I hg hm boot_range (PyProof.Rows.callWith_type1 (thn (ha.run pos pins s σ H _ I h) fun us s1 ⟨vs, H1, I1, r1, q1⟩ => ?_) hs rfl))
  obtain ⟨j, e, q⟩ := q1
  subst e
  cases r1 with
  | cons r rr =>
    cases rr
    obtain ⟨t, rfl⟩ := r
    exact call_range_1 (range_itA I1 (by simpa using q))
theorem pi_rangeA2 {a b : Expr} {ta : TA} (hg : Gl X "range") (hm : X.mg "range" = none) (ha : PA X [a, b] ta) (hs : starEach [a, b] X.env = [(false, eval a X.env), (false, eval b X.env)] := by rfl) (hs2 : starEach [b] X.env = [(false, eval b X.env)] := by rfl) :
    PI X tg (.Call (.Name "range" p) [a, b] [] pos) (iRngA2 ta) := by
  refine ⟨fun pins s σ H R I h => ?_⟩
  refine Call_ (ld_blt I hg hm boot_range (PyProof.Rows.callWith_type1 (thn (ha.run pos pins s σ H _ I h) fun us s1 ⟨vs, H1, I1, r1, q1⟩ => ?_) (by rw [hs, hs2]) (by rw [hs2]; rfl)))
  obtain ⟨i, j, e, q⟩ := q1
  subst e
  cases r1 with
  | cons r rr =>
    cases rr with
    | cons r' rr =>
      cases rr
      obtain ⟨t, rfl⟩ := r
      obtain ⟨t', rfl⟩ := r'
      exact call_range_2 (range_itA I1 q)
def iR1 (fa : Env → M D) : Env → M (List D) := fun ρ => M.bind (fa ρ) fun x => M.bind (toI x) fun i => M.pure (rangeD 0 i.toNat)
def iR2 (fa fb : Env → M D) : Env → M (List D) := fun ρ => M.bind (fa ρ) fun x => M.bind (fb ρ) fun y => M.bind (toI x) fun i => M.bind (toI y) fun j => M.pure (rangeD i (j - i).toNat)
theorem di_range1 (hg : Gl X "range") (hm : X.mg "range" = none) (ha : DE X W false e fa) (hs : starEach [e] X.env = [(false, eval e X.env)] := by rfl) (he : starEach [e] X.env = (false, eval e X.env) :: starEach [] X.env := by rfl) :
    DI X W tg (.Call (.Name "range" p) [e] [] pos) (iR1 fa) := impPI (pi_rangeA1 hg hm (pa_cons ha pa_nil he) hs) fun σ H R ⟨T, F, ρ, τ, s, q⟩ =>
  tD_mono (tD_of (m := false) s s.bs.refl q) fun x H1 ⟨F1, τ1, d, x1, y1, s1, r1, q1⟩ => by
    cases r1 with
    | int i =>
      have q2 : wpR (M.pure (rangeD 0 i.toNat) τ1) _ _ := q1
      exact ⟨i, rfl, q2 _ F1 H1 x1 it_rng⟩
    | _ => exact q1.elim
theorem di_range2 (hg : Gl X "range") (hm : X.mg "range" = none) (ha : DE X W false e fa) (hb : DE X W false e2 fb) (hs : starEach [e, e2] X.env = [(false, eval e X.env), (false, eval e2 X.env)] := by rfl) (hs2 : starEach [e2] X.env = [(false, eval e2 X.env)] := by rfl)
    (he : starEach [e, e2] X.env = (false, eval e X.env) :: starEach [e2] X.env := by rfl) (he2 : starEach [e2] X.env = (false, eval e2 X.env) :: starEach [] X.env := by rfl) :
    DI X W tg (.Call (.Name "range" p) [e, e2] [] pos) (iR2 fa fb) := impPI (pi_rangeA2 hg hm (pa_cons ha (pa_cons hb pa_nil he2) he) hs hs2) fun σ H R ⟨T, F, ρ, τ, s, q⟩ =>
  tD_mono (tD_of (m := false) s s.bs.refl q) fun x H1 ⟨F1, τ1, d, x1, y1, s1, r1, q1⟩ => tD_mono (tD_of (m := false) s1 x1 q1) fun y H2 ⟨F2, τ2, d2, x2, y2, s2, r2, q2⟩ => by
    cases r1 with
    | int i =>
      cases r2 with
      | int j =>
        have q3 : wpR (M.pure (rangeD i (j - i).toNat) τ2) _ _ := q2
        exact ⟨i, j, rfl, q3 _ F2 H2 x2 it_rng⟩
      | _ => exact q2.elim
    | _ => exact q2.elim
end
end DL
end

section
set_option Elab.async false
set_option linter.all false
set_option maxRecDepth 100000
set_option maxHeartbeats 2000000
/-! DLI: loops, comprehensions, stores over data -/
namespace DL
open PySem PySem.Spec PyProof.Rows L2

/-! ### for, while -/
def turnO (o : O) (k : Env → Tin → O) : O := match o with
  | .nx ρ τ => k ρ τ
  | .ct ρ τ => k ρ τ
  | .bk ρ τ => .nx ρ τ
  | o => o
def loopO (g : D → Env → Option Env) (b : G) : List D → Env → Tin → O
  | [], ρ, τ => .nx ρ τ
  | d :: ds, ρ, τ => match g d ρ with
    | none => .no
    | some ρ1 => turnO (b ρ1 τ) (loopO g b ds)
def sFor (f : Env → M (List D)) (g : D → Env → Option Env) (b : G) : G := fun ρ τ => bO (f ρ) ρ (fun ds τ1 => loopO g b ds ρ τ1) τ
def whileO (t : Env → M Bool) (b : G) : Nat → Env → Tin → O
  | 0, _, _ => .no
  | n + 1, ρ, τ => bO (t ρ) ρ (fun c τ1 => if c = true then turnO (b ρ τ1) (whileO t b n) else .nx ρ τ1) τ
def sWhile (n : Nat) (t : Env → M Bool) (b : G) : G := fun ρ τ => whileO t b n ρ τ
section
variable {X : Cx} {W : WX} {tg iter c : Expr} {body : List Stmt} {f : Env → M (List D)} {g : D → Env → Option Env} {b : G} {t : Env → M Bool} {is : List Nat} {pos : Pos}
theorem Sta.rebase {κ : Kc} {T : Option Addr} {Fp Fq F0 H0 F H : Hp} {σ : L2.St} {ρ : Env} {τ : Tin} (s : Sta κ T Fp F0 H0 F H σ ρ τ) (h : Same Fq F) : Sta κ T Fq F0 H0 F H σ ρ τ := ⟨s.sr, s.ex, s.ow, h⟩
theorem ds_for (hp : PassesOwn (model X.prog X.w) X.A X.env X.xe) (hc : X.calm = true) (hi : DI X W tg iter f) (hg : DG X is tg g) (hb : DSs X W body b)
    (hs : ∀ x, foldedSetIterable iter X.env x = pure x := by intro _; rfl) : DS X W (.For tg iter body [] pos) (sFor f g b) := impPS (ps_for hp hc hi hg hb hs) fun D σ H ⟨T, Fp, F0, H0, F, ρ, τ, s, q⟩ => by
  refine ⟨T, F, ρ, τ, s.sr, ?_⟩
  unfold sFor bO at q
  cases e : f ρ τ with
  | no => rw [e] at q; exact q.elim
  | exc c τ1 =>
    rw [e] at q
    exact fun F' H' cl x hm => q F' H' σ cl (s.ext x) hm
  | ok ds τ1 =>
    rw [e] at q
    intro J F1 H1 x1 ⟨Y, wk, yd⟩
    refine for_it wk (fun i σ H => ∃ F ρ τ, Sta (kc X) T F1 F0 H0 F H σ ρ τ ∧ Same Fp F ∧ wpO (kc X) X.mg W T Fp F0 H0 D (loopO g b (ds.drop i) ρ τ)) ⟨F1, ρ, τ1, (s.ext x1).rebase (Same.refl _), (s.ext x1).pin, q⟩
      (fun i σ H _ ⟨F2, ρ2, τ2, s2, _, _⟩ => s2.pin.trans s2.sr.bs.le) (fun i x σ H H' hi ⟨F2, ρ2, τ2, s2, fp2, q2⟩ y => ?_) (fun σ H ⟨F2, ρ2, τ2, s2, fp2, q2⟩ => ?_)
    · have hd : ds[i]? = some ds[i] := List.getElem?_eq_getElem hi
      obtain ⟨F3, x3, r3⟩ := yd i _ H x H' F2 τ2 hd y s2.sr.bs s2.pin
      have s3 := s2.ext x3
      rw [List.drop_eq_getElem_cons hi] at q2
      unfold loopO at q2
      cases eg : g ds[i] ρ2 with
      | none => rw [eg] at q2; exact q2.elim
      | some ρ3 =>
        rw [eg] at q2
        refine ⟨T, F3, ρ2, τ2, ds[i], s3.sr, r3, ρ3, eg, fun σ4 s4 a4 => ?_⟩
        refine ⟨T, F3, F0, H0, F3, ρ3, τ2, (s3.apart s4 a4).rebase (Same.refl _), ?_⟩
        have pin3 : Same F1 F3 := s3.pin
        have fp3 : Same Fp F3 := fp2.trans x3.le
        have q2 : wpO (kc X) X.mg W T Fp F0 H0 D (turnO (b ρ3 τ2) (loopO g b (ds.drop (i + 1)))) := q2
        cases eb : b ρ3 τ2 with
        | nx ρ5 τ5 =>
          rw [eb] at q2
          exact fun F' H' σ' s' => ⟨F', ρ5, τ5, s'.rebase (pin3.trans s'.pin), fp3.trans s'.pin, q2⟩
        | ct ρ5 τ5 =>
          rw [eb] at q2
          exact fun F' H' σ' s' => ⟨F', ρ5, τ5, s'.rebase (pin3.trans s'.pin), fp3.trans s'.pin, q2⟩
        | bk ρ5 τ5 =>
          rw [eb] at q2
          exact fun F' H' σ' s' => q2 F' H' σ' (s'.rebase (fp3.trans s'.pin))
        | rt d τ5 =>
          rw [eb] at q2
          exact q2
        | exc ex ρ5 τ5 =>
          rw [eb] at q2
          exact fun F' H' σ' cl s' hm => q2 F' H' σ' cl (s'.rebase (fp3.trans s'.pin)) hm
        | no => rw [eb] at q2; exact q2.elim
    · rw [List.drop_length] at q2
      exact q2 F2 H σ (s2.rebase fp2)
theorem ds_while (n : Nat) (hp : PassesOwn (model X.prog X.w) X.A X.env X.xe) (hc : DT X W c t) (hb : DSs X W body b) : DS X W (.While c body [] pos) (sWhile n t b) := impPS (ps_while hp hc hb) fun D σ H ⟨T, Fp, F0, H0, F, ρ, τ, s, q⟩ => by
  refine ⟨fun m σ H => ∃ F ρ τ, Sta (kc X) T Fp F0 H0 F H σ ρ τ ∧ wpO (kc X) X.mg W T Fp F0 H0 D (whileO t b m ρ τ), ⟨n, F, ρ, τ, s, q⟩, fun m σ H ⟨F1, ρ1, τ1, s1, q1⟩ => ?_⟩
  cases m with
  | zero => exact q1.elim
  | succ m =>
    refine tDT_mono (bDT_of s1 q1) fun c H2 ⟨F2, τ2, x2, s2, q2⟩ => ?_
    cases c with
    | false => exact q2 F2 H2 σ s2
    | true =>
      refine ⟨fun σ H => ∃ F ρ τ, Sta (kc X) T Fp F0 H0 F H σ ρ τ ∧ wpO (kc X) X.mg W T Fp F0 H0 D (whileO t b m ρ τ), fun σ' H' h => ⟨m, Nat.lt_succ_self m, h⟩, T, Fp, F0, H0, F2, ρ1, τ2, s2, ?_⟩
      have q2 : wpO (kc X) X.mg W T Fp F0 H0 D (turnO (b ρ1 τ2) (whileO t b m)) := q2
      cases eb : b ρ1 τ2 with
      | nx ρ5 τ5 => rw [eb] at q2; exact fun F' H' σ' s' => ⟨F', ρ5, τ5, s', q2⟩
      | ct ρ5 τ5 => rw [eb] at q2; exact fun F' H' σ' s' => ⟨F', ρ5, τ5, s', q2⟩
      | bk ρ5 τ5 => rw [eb] at q2; exact q2
      | rt d τ5 => rw [eb] at q2; exact q2
      | exc ex ρ5 τ5 => rw [eb] at q2; exact q2
      | no => rw [eb] at q2; exact q2.elim
end

/-! ### comprehensions -/
/-- no exception -/
def calm {α : Type} (x : M α) : M α := fun τ => match x τ with
  | .ok a τ1 => .ok a τ1
  | _ => .no
theorem wpR_calm {α : Type} {x : M α} {τ : Tin} {P : α → Tin → Prop} {E E' : Str → Tin → Prop} (h : wpR (calm x τ) P E) : wpR (x τ) P E' := by
  unfold calm at h
  cases e : x τ with
  | ok a τ1 => rw [e] at h; exact h
  | exc c τ1 => rw [e] at h; exact h.elim
  | no => rw [e] at h; exact h.elim
theorem calm_pure {α : Type} (a : α) : calm (M.pure a) = M.pure a := rfl
theorem calm_ok {α : Type} {x : M α} {τ τ1 : Tin} {a : α} (h : x τ = .ok a τ1) : calm x τ = .ok a τ1 := by
  unfold calm
  rw [h]
def compM (g : D → Env → Option Env) (t : Env → M Bool) (f : Env → M D) : List D → Env → M (List D)
  | [], _ => M.pure []
  | d :: ds, ρ => match g d ρ with
    | none => M.no
    | some ρ1 => M.bind (calm (t ρ1)) fun c => if c = true then M.bind (calm (f ρ1)) fun x => M.bind (compM g t f ds ρ) fun xs => M.pure (x :: xs) else compM g t f ds ρ
/-- the slots of the comprehension's own names -/
def wipeS (ρ : Env) : List Nat → Env
  | [] => ρ
  | v :: vs => (wipeS ρ vs).set v .un
def fComp (fi : Env → M (List D)) (own : List Nat) (g : D → Env → Option Env) (t : Env → M Bool) (f : Env → M D) : Env → M (List D) := fun ρ => M.bind (fi ρ) fun ds => if fits ds = true then compM g t f ds (wipeS ρ own) else M.no
def bYes : Env → M Bool := fun _ => M.pure true
def tDTs (κ : Kc) (mg : Str → Option Value) (W : WX) (f : Env → M Bool) : TT := tDT κ mg W f
abbrev noX : WX := fun _ _ _ _ => False
abbrev DTs (X : Cx) (es : List Expr) (f : Env → M Bool) : Prop := PTs X es (tDT (kc X) X.mg noX f)
theorem impPTs {X : Cx} {es : List Expr} {t t' : TT} (h : PTs X es t) (i : ∀ σ H Q, t' σ H Q → t σ H Q) : PTs X es t' := ⟨fun pins s σ H Q I q => h.run pins s σ H Q I (i σ H Q q)⟩
section
variable {κ : Kc} {T : Option Addr} {F H : Hp} {σ σ1 σ2 : L2.St} {ρ : Env} {τ : Tin}
theorem wipeS_own : ∀ (vs : List Nat) {j : Nat} {s : S}, (wipeS ρ vs)[j]? = some s → (s = .un) ∨ (j ∉ vs ∧ ρ[j]? = some s)
  | [], j, s, h => .inr ⟨by simp, h⟩
  | v :: vs, j, s, h => by
    rcases get_set h with ⟨_, e, _⟩ | ⟨ne, h⟩
    · exact .inl e
    · rcases wipeS_own vs h with z | ⟨z, h⟩
      · exact .inl z
      · exact .inr ⟨fun z' => (List.mem_cons.mp z').elim (fun e => ne e.symm) z, h⟩
theorem wipe_out : ∀ (vs : List Nat) {j : Nat}, j ∉ vs → (wipe σ vs)[j]? = σ[j]?
  | [], j, _ => rfl
  | v :: vs, j, h => by
    unfold wipe
    rw [List.getElem?_set_ne (fun e => h (by rw [e]; exact List.mem_cons_self))]
    exact wipe_out vs fun z => h (List.mem_cons_of_mem _ z)
theorem wipe_in : ∀ (vs : List Nat) {j : Nat}, j ∈ vs → j < σ.length → (wipe σ vs)[j]? = some none
  | v :: vs, j, h, hl => by
    unfold wipe
    by_cases e : v = j
    · subst e
      exact List.getElem?_set_self (by rw [wipe_length]; exact hl)
    · rw [List.getElem?_set_ne e]
      exact wipe_in vs ((List.mem_cons.mp h).resolve_left fun z => e z.symm) hl
theorem wipeS_length (vs : List Nat) : (wipeS ρ vs).length = ρ.length := by
  induction vs with
  | nil => rfl
  | cons v vs ih => unfold wipeS; rw [List.length_set]; exact ih
theorem wipe_same (vs : List Nat) (hl : σ1.length = σ2.length) (h : ∀ j, j ∉ vs → σ1[j]? = σ2[j]?) : wipe σ1 vs = wipe σ2 vs := by
  refine List.ext_getElem? fun j => ?_
  by_cases hj : j ∈ vs
  · by_cases hn : j < σ1.length
    · rw [wipe_in vs hj hn, wipe_in vs hj (by rw [← hl]; exact hn)]
    · rw [List.getElem?_eq_none (by rw [wipe_length]; omega), List.getElem?_eq_none (by rw [wipe_length]; omega)]
  · rw [wipe_out vs hj, wipe_out vs hj, h j hj]
theorem SR.wipe (s : SR κ T F H σ ρ τ) (vs : List Nat) : SR κ T F H (wipe σ vs) (wipeS ρ vs) τ := by
  have own : ∀ (j : Nat) (xs : List D) (a : Addr), (wipeS ρ vs)[j]? = some (.own xs) → (L2.wipe σ vs)[j]? = some (some (.ref a)) → ρ[j]? = some (.own xs) ∧ σ[j]? = some (some (.ref a)) := fun j xs a h1 h2 => by
    rcases wipeS_own vs h1 with z | ⟨z, h⟩
    · cases z
    · rw [wipe_out vs z] at h2
      exact ⟨h, h2⟩
  refine ⟨s.bs, by rw [wipe_length, wipeS_length, s.len], fun j x h => ?_, fun j k xs ys a h1 h2 h3 h4 => ?_⟩
  · rcases wipeS_own vs h with z | ⟨z, h'⟩
    · subst z
      have hj : j < (L2.wipe σ vs).length := by
        rw [wipe_length, s.len, ← wipeS_length (ρ := ρ) vs]
        exact (List.getElem?_eq_some_iff.mp h).1
      exact ⟨_, List.getElem?_eq_getElem hj, trivial⟩
    · rw [wipe_out vs z]
      exact s.slot j x h'
  · obtain ⟨a1, a2⟩ := own j xs a h1 h3
    obtain ⟨b1, b2⟩ := own k ys a h2 h4
    exact s.apart j k xs ys a a1 b1 a2 b2
end
section
variable {X : Cx} {W : WX} {tg iter elt : Expr} {ifs : List Expr} {fi : Env → M (List D)} {g : D → Env → Option Env} {t : Env → M Bool} {f : Env → M D} {is : List Nat} {own : List (Str × Nat)} {scope : Scope} {pos : Pos}
theorem dts_nil : DTs X [] bYes := impPTs pts_nil fun σ H Q ⟨T, F, ρ, τ, s, q⟩ => by
  have q : ∀ F' H', Ext T F H F' H' τ → Q true H' := q
  exact q F H s.bs.refl
theorem dts_one {c : Expr} (h : DT X noX c t) : DTs X [c] t := pts_one h
theorem tLc_of {σ : L2.St} {H : Hp} {Q : VK} (his : ∀ i ∈ is, i ∈ own.map (·.2)) (q : tF (kc X) X.mg W (fComp fi (own.map (·.2)) g t f) σ H Q) :
    tLc (tI (kc X) X.mg W fi) (tG (kc X) is g) (tDT (kc X) X.mg noX t) (tD (kc X) X.mg noX false f) (own.map (·.2)) σ H Q := by
  generalize hv : own.map (·.2) = vs at his q ⊢
  obtain ⟨T, F, ρ, τ, s, q⟩ := q
  refine ⟨T, F, ρ, τ, s, wpR_mono (wpR_bind q) (fun ds τ1 q J F1 H1 x1 ⟨Y, wk, yd⟩ D hD => ?_) fun _ _ z => z⟩
  split at q
  · rename_i hf
    have b1 := x1.bs
    have hD0 := was_free x1 hD
    have hTD := T_ne b1 hD
    have s1 := s.ext x1
    have eX := s1.wipe vs
    refine lc_it wk (fun i Hn => ∃ Fn τn vacc acc, SR (kc X) T Fn Hn (wipe σ vs) (wipeS ρ vs) τn ∧ Ext T F H Fn Hn τn ∧ Same F1 Fn ∧ Hn D = some (.lst vacc) ∧ Fn D = none ∧ RepAll (kc X) T Fn vacc acc ∧ acc.length ≤ i ∧
        wpR (M.bind (compM g t f (ds.drop i) (wipeS ρ vs)) (fun xs => M.pure (acc ++ xs)) τn) (freshP (kc X) T F H Q) (fun _ _ => True))
      ⟨F1, τ1, [], [], eX.ext (b1.aside hD), x1.trans (b1.aside hD), Same.refl _, upd_same, Same.free b1.le hD, .nil, Nat.le_refl _, ?_⟩
      (fun i Hn _ ⟨Fn, τn, vacc, acc, sn, xn, le, _⟩ => le.trans sn.bs.le) (fun i x Hn Hm hi ⟨Fn, τn, vacc, acc, sn, xn, le, hDn, fDn, rn, hl, qn⟩ y => ?_) (fun Hn ⟨Fn, τn, vacc, acc, sn, xn, le, hDn, fDn, rn, hl, qn⟩ => ?_)
    · show wpR (M.bind (compM g t f ds (wipeS ρ vs)) (fun xs => M.pure xs) τ1) (freshP (kc X) T F H Q) (fun _ _ => True)
      have e : M.bind (compM g t f ds (wipeS ρ vs)) (fun xs => M.pure xs) = compM g t f ds (wipeS ρ vs) := M.bind_pure _
      rw [e]
      exact wpR_mono q (fun _ _ z => z) fun _ _ _ => trivial
    · have hd : ds[i]? = some ds[i] := List.getElem?_eq_getElem hi
      obtain ⟨F3, x3, r3⟩ := yd i _ Hn x Hm Fn τn hd y sn.bs le
      have s3 := sn.ext x3
      have hD3 : Hm D = some (.lst vacc) := x3.keep _ _ hDn hTD
      have free3 : ∀ {Fa Ha Fb Hb : Hp} {τb : Tin}, Ext T Fa Ha Fb Hb τb → Fa D = none → (∃ u, Ha D = some u) → Fb D = none := fun {Fa Ha Fb Hb τb} xx h1 ⟨u, h2⟩ => by
        cases z : Fb D with
        | none => rfl
        | some o =>
          rcases xx.new D o z with w | w
          · rw [h1] at w; cases w
          · rw [h2] at w; cases w
      have fD3 := free3 x3 fDn ⟨_, hDn⟩
      rw [List.drop_eq_getElem_cons hi] at qn
      unfold compM at qn
      cases eg : g ds[i] (wipeS ρ vs) with
      | none => rw [eg] at qn; exact qn.elim
      | some ρ3 =>
        rw [eg] at qn
        refine ⟨T, F3, wipeS ρ vs, τn, ds[i], s3, r3, ρ3, eg, fun σ4 s4 a4 => ?_⟩
        have ew : wipe σ4 vs = wipe σ vs := (wipe_same vs a4.1 fun j hj => (a4.2.2.1 j fun z => hj (his j z)).1).trans (wipe_same vs (wipe_length σ vs) fun j hj => wipe_out vs hj)
        refine ⟨ew, T, F3, ρ3, τn, s4, ?_⟩
        have q2 : wpR (M.bind (calm (t ρ3)) (fun c => M.bind (if c = true then M.bind (calm (f ρ3)) fun x => M.bind (compM g t f (ds.drop (i + 1)) (wipeS ρ vs)) fun xs => M.pure (x :: xs) else compM g t f (ds.drop (i + 1)) (wipeS ρ vs)) fun xs => M.pure (acc ++ xs)) τn) (freshP (kc X) T F H Q) (fun _ _ => True) := by
          have qn : wpR (M.bind (M.bind (calm (t ρ3)) fun c => if c = true then M.bind (calm (f ρ3)) fun x => M.bind (compM g t f (ds.drop (i + 1)) (wipeS ρ vs)) fun xs => M.pure (x :: xs) else compM g t f (ds.drop (i + 1)) (wipeS ρ vs)) (fun xs => M.pure (acc ++ xs)) τn) (freshP (kc X) T F H Q) (fun _ _ => True) := qn
          rw [M.bind_assoc] at qn
          exact qn
        refine wpR_mono (wpR_calm (E' := fun _ _ => False) (wpR_bind q2)) (fun c τ4 q3 F4 H4 x4 => ?_) fun _ _ z => z.elim
        have hD4 : H4 D = some (.lst vacc) := x4.keep _ _ hD3 hTD
        have fD4 := free3 x4 fD3 ⟨_, hD3⟩
        cases c with
        | false =>
          exact ⟨F4, τ4, vacc, acc, (s3.ext x4), (xn.trans x3).trans x4, (le.trans x3.le).trans x4.le, hD4, fD4, (rn.mono x3.le).mono x4.le, Nat.le_succ_of_le hl, q3⟩
        | true =>
          have q3 : wpR (M.bind (M.bind (calm (f ρ3)) fun x => M.bind (compM g t f (ds.drop (i + 1)) (wipeS ρ vs)) fun xs => M.pure (x :: xs)) (fun xs => M.pure (acc ++ xs)) τ4) (freshP (kc X) T F H Q) (fun _ _ => True) := q3
          rw [M.bind_assoc] at q3
          refine ⟨T, F4, ρ3, τ4, s4.ext x4, wpR_mono (wpR_calm (E' := fun _ _ => False) (wpR_bind q3)) (fun d5 τ5 q4 y5 F5 H5 x5 r5 => ?_) fun _ _ z => z.elim⟩
          have hD5 : H5 D = some (.lst vacc) := x5.keep _ _ hD4 hTD
          have fD5 := free3 x5 fD4 ⟨_, hD4⟩
          have r5 : Rep (kc X) T F5 y5 d5 := r5
          have r5' := ((rn.mono x3.le).mono x4.le).mono x5.le
          have xx := ((xn.trans x3).trans x4).trans x5
          have s5 := (s3.ext x4).ext x5
          have bs : Bs T F5 (upd H5 D (.lst (vacc ++ [y5]))) τ5 := ⟨fun c o z => by
            have : c ≠ D := fun w => by subst w; rw [fD5] at z; cases z
            rw [upd_ne this]; exact s5.bs.le _ _ z, fun c z => ⟨(s5.bs.tn c z).1, by
              have : c ≠ D := fun w => by subst w; exact hTD z
              rw [upd_ne this]; exact (s5.bs.tn c z).2⟩⟩
          refine ⟨vacc, hD5, ?_, F5, τ5, vacc ++ [y5], acc ++ [d5], ⟨bs, s5.len, fun j x h => ?_, s5.apart⟩, ⟨fun c o z n => ?_, xx.le, bs.le, xx.new, bs.tn⟩, ((le.trans x3.le).trans x4.le).trans x5.le, upd_same, fD5, r5'.append (.cons r5 .nil), ?_, ?_⟩
          · have := fits_le hf
            rw [rn.length]
            omega
          · obtain ⟨u, hu, z⟩ := s5.slot j x h
            refine ⟨u, hu, ?_⟩
            cases x with
            | un => trivial
            | d d => exact z
            | own zs =>
              obtain ⟨c, us, e1, e2, e3, e4, e5⟩ := z
              have hne : c ≠ D := fun w => by
                subst w
                obtain ⟨u0, hu0, c0, us0, f1, f2, _⟩ := eX.slot j _ h
                rw [hu] at hu0
                cases hu0
                rw [e1] at f1
                cases f1
                rw [hD] at f2
                cases f2
              exact ⟨c, us, e1, by rw [upd_ne hne]; exact e2, e3, e4, e5⟩
          · have : c ≠ D := fun w => by subst w; rw [hD0] at z; cases z
            rw [upd_ne this]
            exact xx.keep _ _ z n
          · rw [List.length_append, List.length_singleton]
            omega
          · have e : M.bind (M.bind (compM g t f (ds.drop (i + 1)) (wipeS ρ vs)) fun xs => M.pure (d5 :: xs)) (fun xs => M.pure (acc ++ xs)) = M.bind (compM g t f (ds.drop (i + 1)) (wipeS ρ vs)) (fun xs => M.pure ((acc ++ [d5]) ++ xs)) := by
              rw [M.bind_assoc]
              congr 1
              funext xs
              rw [M.pure_bind, List.append_assoc]
              rfl
            rw [← e]
            exact q4
    · rw [List.drop_length] at qn
      have qn : ∀ a vs F' H', Ext T F H F' H' τn → H a = none → F' a = none → H' a = some (.lst vs) → T ≠ some a → RepAll (kc X) T F' vs (acc ++ []) → Q (.ref a) H' := qn
      refine qn D vacc Fn Hn xn hD0 fDn hDn hTD ?_
      rw [List.append_nil]
      exact rn
  · exact q.elim
theorem df_comp (hc : X.calm = true) (hN : X.N.Nodup) (hi : DI X W tg iter fi) (ok : BlkOk X.N X.env.scope scope own) (his : ∀ i ∈ is, i ∈ own.map (·.2))
    (hg : ∀ (s : Shared) (H : Hp) (C : Addr) (cl : List (Str × Addr)) (fp : List Addr), DG (X.blk s H scope (compEnvC scope cl C X.env) fp) is tg g)
    (ht : ∀ (s : Shared) (H : Hp) (C : Addr) (cl : List (Str × Addr)) (fp : List Addr), DTs (X.blk s H scope (compEnvC scope cl C X.env) fp) ifs t)
    (he : ∀ (s : Shared) (H : Hp) (C : Addr) (cl : List (Str × Addr)) (fp : List Addr), DE (X.blk s H scope (compEnvC scope cl C X.env) fp) noX false elt f) (hs : ∀ x, foldedSetIterable iter X.env x = pure x := by intro _; rfl) :
    DF X W (.ListComp elt [⟨tg, iter, ifs, 0⟩] scope pos) (fComp fi (own.map (·.2)) g t f) := impPE (pe_lc hc hN hi ok hg ht he hs) fun σ H Q q => tLc_of his q
def sSetF (i : Nat) (f : Env → M (List D)) : G := fun ρ τ => bO (f ρ) ρ (fun ds τ1 => .nx (ρ.set i (.d (.lst ds))) τ1) τ
def sOwn (i : Nat) (f : Env → M (List D)) : G := fun ρ τ => bO (f ρ) ρ (fun ds τ1 => .nx (ρ.set i (.own ds)) τ1) τ
theorem bF_of {κ : Kc} {mg : Str → Option Value} {T : Option Addr} {Fp F0 H0 F H : Hp} {σ : L2.St} {ρ : Env} {τ : Tin} {Ed : Ends} {f : Env → M (List D)} {k : List D → Tin → O} (s : Sta κ T Fp F0 H0 F H σ ρ τ) (h : wpO κ mg W T Fp F0 H0 Ed (bO (f ρ) ρ k τ)) :
    tF κ mg W f σ H fun v H1 => ∃ F1 τ1 a vs ds, v = .ref a ∧ Ext T F H F1 H1 τ1 ∧ Sta κ T Fp F0 H0 F1 H1 σ ρ τ1 ∧ H a = none ∧ F1 a = none ∧ H1 a = some (.lst vs) ∧ T ≠ some a ∧ RepAll κ T F1 vs ds ∧ wpO κ mg W T Fp F0 H0 Ed (k ds τ1) := by
  refine ⟨T, F, ρ, τ, s.sr, ?_⟩
  unfold bO at h
  cases e : f ρ τ with
  | ok d τ1 =>
    rw [e] at h
    exact fun a vs F1 H1 x h0 h1 h2 h3 r => ⟨F1, τ1, a, vs, d, rfl, x, s.ext x, h0, h1, h2, h3, r, h⟩
  | exc c τ1 =>
    rw [e] at h
    exact fun F' H' cl x hm => h F' H' σ cl (s.ext x) hm
  | no => rw [e] at h; exact h
/-- a fresh list is nobody's -/
theorem Sta.fresh {κ : Kc} {T : Option Addr} {Fp F0 H0 F H F1 H1 : Hp} {σ : L2.St} {ρ : Env} {τ τ1 : Tin} {a : Addr} {vs : List V} {ds : List D} (s : Sta κ T Fp F0 H0 F H σ ρ τ) (x : Ext T F H F1 H1 τ1) (i : Nat) (h0 : H a = none) (h1 : F1 a = none) (h2 : H1 a = some (.lst vs)) (h3 : T ≠ some a)
    (r : RepAll κ T F1 vs ds) : Sta κ T Fp F0 H0 F1 H1 (σ.set i (some (.ref a))) (ρ.set i (.own ds)) τ1 := by
  refine (s.ext x).own i h2 h1 h3 r ?_ fun j ys _ hj hv => ?_
  · cases z : H0 a with
    | none => rfl
    | some o =>
      by_cases ht : T = some a
      · exact absurd ht h3
      · rw [s.ex.keep a o z ht] at h0; cases h0
  · obtain ⟨u, hu, b, us, e1, e2, _⟩ := s.sr.slot j _ hj
    rw [hv] at hu
    cases hu
    cases e1
    rw [h0] at e2
    cases e2
theorem ds_own {x : Str} {e : Expr} {fs : Env → M (List D)} {pos' : Pos} (i : Nat) (hN : X.N.Nodup) (he : DF X W e fs) (hi : X.N[i]? = some x := by rfl) (hx : Loc X.env.scope x := by first | exact .inl rfl | exact .inr rfl)
    (hs : swapsWith e (some (.Name x pos')) pos.line X.env = pure false := by rfl) (hf : X.fn x = true ∨ X.env.scope.names.lookup x = some .local := by first | exact .inl rfl | exact .inr rfl | assumption) :
    DS X W (.Assign [.Name x pos'] e pos) (sOwn i fs) := impPS (ps_set hN hi hx he hs hf) fun D σ H ⟨T, Fp, F0, H0, F, ρ, τ, s, q⟩ => by
  obtain ⟨T1, F1, ρ1, τ1, s1, q1⟩ := bF_of s q
  exact ⟨T1, F1, ρ1, τ1, s1, wpR_mono q1 (fun ds τ2 q2 a vs F' H' x h0 h1 h2 h3 r => by
    obtain ⟨F3, τ3, a3, vs3, ds3, e, x3, s3, g0, g1, g2, g3, r3, q3⟩ := q2 a vs F' H' x h0 h1 h2 h3 r
    exact q3 F3 H' _ (by rw [e]; exact s.fresh x3 i g0 g1 g2 g3 r3)) fun _ _ z => z⟩
end
end DL
end

section
set_option Elab.async false
set_option linter.all false
set_option maxRecDepth 100000
set_option maxHeartbeats 2000000
/-! DLJ: several names at once, stores to lists of one's own, more that is walked; defs -/
namespace DL
open PySem PySem.Spec PyProof.Rows L2

/-! ### values for names: data, or fresh lists -/
/-- values for several names; H: the heap ahead -/
structure News (κ : Kc) (T : Option Addr) (H F' H' : Hp) (vs : List V) (ss : List S) : Prop where
  len : vs.length = ss.length
  slot : ∀ (k : Nat) (s : S), ss[k]? = some s → ∃ v, vs[k]? = some v ∧ SlotOk κ T F' H' (some v) s
  was : ∀ (k : Nat) (xs : List D) (a : Addr), ss[k]? = some (.own xs) → vs[k]? = some (.ref a) → H a = none
  apart : ∀ (k l : Nat) (xs ys : List D) (a : Addr), ss[k]? = some (.own xs) → ss[l]? = some (.own ys) → vs[k]? = some (.ref a) → vs[l]? = some (.ref a) → k = l
def tX (κ : Kc) (mg : Str → Option Value) (W : WX) (f : Env → M (List S)) : TA := fun σ H Q => ∃ T F ρ τ, SR κ T F H σ ρ τ ∧
  wpR (f ρ τ) (fun ss τ' => ∀ vs F' H', Ext T F H F' H' τ' → News κ T H F' H' vs ss → Q vs H') (wX mg W T F H σ)
abbrev DX (X : Cx) (W : WX) (es : List Expr) (f : Env → M (List S)) : Prop := PA X es (tX (kc X) X.mg W f)
def xNil : Env → M (List S) := fun _ => M.pure []
def xVal (fa : Env → M D) (fs : Env → M (List S)) : Env → M (List S) := fun ρ => M.bind (fa ρ) fun x => M.bind (fs ρ) fun xs => M.pure (.d x :: xs)
def xOwn (fa : Env → M (List D)) (fs : Env → M (List S)) : Env → M (List S) := fun ρ => M.bind (fa ρ) fun x => M.bind (fs ρ) fun xs => M.pure (.own x :: xs)
section
variable {κ : Kc} {T : Option Addr} {F H F1 H1 F2 H2 : Hp} {τ1 τ2 : Tin} {vs : List V} {ss : List S} {v : V} {d : D} {ds : List D} {a : Addr} {us : List V}
theorem News.nil : News κ T H F1 H1 [] [] := ⟨rfl, fun _ _ h => by simp at h, fun _ _ _ h => by simp at h, fun _ _ _ _ _ h => by simp at h⟩
theorem News.val (x : Ext T F H F1 H1 τ1) (y : Ext T F1 H1 F2 H2 τ2) (n : News κ T H1 F2 H2 vs ss) (r : Rep κ T F1 v d) : News κ T H F2 H2 (v :: vs) (.d d :: ss) := by
  refine ⟨by rw [List.length_cons, List.length_cons, n.len], fun k s h => ?_, fun k xs a h1 h2 => ?_, fun k l xs ys a h1 h2 h3 h4 => ?_⟩
  · cases k with
    | zero => cases h; exact ⟨v, rfl, v, rfl, r.mono y.le⟩
    | succ k => exact n.slot k s h
  · cases k with
    | zero => cases h1
    | succ k => exact was_free x (n.was k xs a h1 h2)
  · cases k with
    | zero => cases h1
    | succ k =>
      cases l with
      | zero => cases h2
      | succ l => rw [n.apart k l xs ys a h1 h2 h3 h4]
theorem News.own (x : Ext T F H F1 H1 τ1) (y : Ext T F1 H1 F2 H2 τ2) (n : News κ T H1 F2 H2 vs ss) (h0 : H a = none) (h1 : F1 a = none) (h2 : H1 a = some (.lst us)) (h3 : T ≠ some a) (r : RepAll κ T F1 us ds) : News κ T H F2 H2 (.ref a :: vs) (.own ds :: ss) := by
  have f2 : F2 a = none := by
    cases z : F2 a with
    | none => rfl
    | some o =>
      rcases y.new a o z with w | w
      · rw [h1] at w; cases w
      · rw [h2] at w; cases w
  refine ⟨by rw [List.length_cons, List.length_cons, n.len], fun k s h => ?_, fun k xs b q1 q2 => ?_, fun k l xs ys b q1 q2 q3 q4 => ?_⟩
  · cases k with
    | zero => cases h; exact ⟨_, rfl, a, us, rfl, y.keep _ _ h2 h3, f2, h3, r.mono y.le⟩
    | succ k => exact n.slot k s h
  · cases k with
    | zero => cases q2; exact h0
    | succ k => exact was_free x (n.was k xs b q1 q2)
  · have no : ∀ (m : Nat) (zs : List D), ss[m]? = some (.own zs) → vs[m]? ≠ some (.ref a) := fun m zs w1 w2 => by
      have := n.was m zs a w1 w2
      rw [h2] at this
      cases this
    cases k with
    | zero =>
      cases q3
      cases l with
      | zero => rfl
      | succ l => exact absurd q4 (no l ys q2)
    | succ k =>
      cases l with
      | zero => cases q4; exact absurd q3 (no k xs q1)
      | succ l => rw [n.apart k l xs ys b q1 q2 q3 q4]
end
section
variable {X : Cx} {W : WX} {e : Expr} {es tgs : List Expr} {fa : Env → M D} {ff : Env → M (List D)} {fs : Env → M (List S)} {pos : Pos}
theorem dx_nil : DX X W [] xNil := impPA pa_nil fun σ H Q ⟨T, F, ρ, τ, s, q⟩ => by
  have q : ∀ vs F' H', Ext T F H F' H' τ → News (kc X) T H F' H' vs [] → Q vs H' := q
  exact q [] F H s.bs.refl .nil
theorem tX_mono {κ : Kc} {mg : Str → Option Value} {σ : L2.St} {H : Hp} {Q Q' : List V → Hp → Prop} (h : tX κ mg W fs σ H Q) (i : ∀ v H, Q v H → Q' v H) : tX κ mg W fs σ H Q' := by
  obtain ⟨T, F, ρ, τ, s, q⟩ := h
  exact ⟨T, F, ρ, τ, s, wpR_mono q (fun d τ' q v F' H' x r => i _ _ (q v F' H' x r)) fun _ _ z => z⟩
theorem tX_of {κ : Kc} {mg : Str → Option Value} {T : Option Addr} {F H F1 H1 : Hp} {σ : L2.St} {ρ : Env} {τ1 : Tin} {α : Type} {k : List S → M α} {P : α → Tin → Prop} (s : SR κ T F1 H1 σ ρ τ1) (x : Ext T F H F1 H1 τ1) (h : wpR (M.bind (fs ρ) k τ1) P (wX mg W T F H σ)) :
    tX κ mg W fs σ H1 (fun v H2 => ∃ F2 τ2 d, Ext T F H F2 H2 τ2 ∧ Ext T F1 H1 F2 H2 τ2 ∧ News κ T H1 F2 H2 v d ∧ wpR (k d τ2) P (wX mg W T F H σ)) :=
  ⟨T, F1, ρ, τ1, s, wpR_mono (wpR_bind h) (fun d τ2 q v F2 H2 y r => ⟨F2, τ2, d, x.trans y, y, r, q⟩) fun _ _ z => z.ext x⟩
theorem tF_of {κ : Kc} {mg : Str → Option Value} {T : Option Addr} {F H F1 H1 : Hp} {σ : L2.St} {ρ : Env} {τ1 : Tin} {α : Type} {k : List D → M α} {P : α → Tin → Prop} (s : SR κ T F1 H1 σ ρ τ1) (x : Ext T F H F1 H1 τ1) (h : wpR (M.bind (ff ρ) k τ1) P (wX mg W T F H σ)) :
    tF κ mg W ff σ H1 (fun v H2 => ∃ F2 τ2 a vs d, v = .ref a ∧ Ext T F H F2 H2 τ2 ∧ SR κ T F2 H2 σ ρ τ2 ∧ H1 a = none ∧ F2 a = none ∧ H2 a = some (.lst vs) ∧ T ≠ some a ∧ RepAll κ T F2 vs d ∧ wpR (k d τ2) P (wX mg W T F H σ)) :=
  ⟨T, F1, ρ, τ1, s, wpR_mono (wpR_bind h) (fun d τ2 q a vs F2 H2 y h0 h1 h2 h3 r => ⟨F2, τ2, a, vs, d, rfl, x.trans y, s.ext y, h0, h1, h2, h3, r, q⟩) fun _ _ z => z.ext x⟩
theorem tF_mono {κ : Kc} {mg : Str → Option Value} {σ : L2.St} {H : Hp} {Q Q' : VK} (h : tF κ mg W ff σ H Q) (i : ∀ v H, Q v H → Q' v H) : tF κ mg W ff σ H Q' := by
  obtain ⟨T, F, ρ, τ, s, q⟩ := h
  exact ⟨T, F, ρ, τ, s, wpR_mono q (fun d τ' q a vs F' H' x h0 h1 h2 h3 r => i _ _ (q a vs F' H' x h0 h1 h2 h3 r)) fun _ _ z => z⟩
theorem dx_val (ha : DE X W false e fa) (hr : DX X W es fs) (hs : starEach (e :: es) X.env = (false, eval e X.env) :: starEach es X.env := by rfl) : DX X W (e :: es) (xVal fa fs) := impPA (pa_cons ha hr hs) fun σ H Q ⟨T, F, ρ, τ, s, q⟩ => by
  refine tD_mono (tD_of (m := false) s s.bs.refl q) fun x H1 ⟨F1, τ1, d, x1, y1, s1, r1, q1⟩ => ?_
  refine tX_mono (tX_of s1 x1 q1) fun xs H2 ⟨F2, τ2, ds, x2, y2, n2, q2⟩ => ?_
  exact q2 _ F2 H2 x2 (n2.val x1 y2 r1)
theorem dx_own (ha : DF X W e ff) (hr : DX X W es fs) (hs : starEach (e :: es) X.env = (false, eval e X.env) :: starEach es X.env := by rfl) : DX X W (e :: es) (xOwn ff fs) := impPA (pa_cons ha hr hs) fun σ H Q ⟨T, F, ρ, τ, s, q⟩ => by
  refine tF_mono (tF_of s s.bs.refl q) fun x H1 ⟨F1, τ1, a, vs, d, ex, x1, s1, h0, h1, h2, h3, r1, q1⟩ => ?_
  refine tX_mono (tX_of s1 x1 q1) fun xs H2 ⟨F2, τ2, ds, x2, y2, n2, q2⟩ => ?_
  rw [ex]
  exact q2 _ F2 H2 x2 (n2.own x1 y2 h0 h1 h2 h3 r1)
def setV : L2.St → List Nat → List V → L2.St
  | σ, [], _ => σ
  | σ, _ :: _, [] => σ
  | σ, i :: is, v :: vs => setV (σ.set i (some v)) is vs
def setS : Env → List Nat → List S → Env
  | ρ, [], _ => ρ
  | ρ, _ :: _, [] => ρ
  | ρ, i :: is, s :: ss => setS (ρ.set i s) is ss
/-- the names get their values -/
theorem Sta.news {κ : Kc} {T : Option Addr} {Fp F0 H0 F H F' H' : Hp} {τ' : Tin} (x : Ext T F H F' H' τ') : ∀ (is : List Nat) {σ : L2.St} {ρ : Env} {vs : List V} {ss : List S}, Sta κ T Fp F0 H0 F' H' σ ρ τ' → (∀ (a : Addr) o, H0 a = some o → T ≠ some a → ∃ u, H a = some u) →
    (∀ (j : Nat) (ys : List D) (a : Addr), ρ[j]? = some (.own ys) → σ[j]? = some (some (.ref a)) → ∀ (k : Nat) (xs : List D), ss[k]? = some (.own xs) → vs[k]? ≠ some (.ref a)) → News κ T H F' H' vs ss → (∀ s ∈ ss, s ≠ .un) → Sta κ T Fp F0 H0 F' H' (setV σ is vs) (setS ρ is ss) τ'
  | [], σ, ρ, vs, ss, s, _, _, _, _ => by
    have e1 : setV σ [] vs = σ := by cases vs <;> rfl
    have e2 : setS ρ [] ss = ρ := by cases ss <;> rfl
    rw [e1, e2]
    exact s
  | _ :: _, σ, ρ, [], [], s, _, _, _, _ => s
  | i :: is, σ, ρ, [], b :: ss, s, _, _, n, _ => by have := n.len; simp at this
  | i :: is, σ, ρ, v :: vs, [], s, _, _, n, _ => by have := n.len; simp at this
  | i :: is, σ, ρ, v :: vs, b :: ss, s, hk, hn, n, hu => by
    have n' : News κ T H F' H' vs ss := ⟨by have := n.len; simpa using this, fun k s h => n.slot (k + 1) s h, fun k xs a h1 h2 => n.was (k + 1) xs a h1 h2, fun k l xs ys a h1 h2 h3 h4 => by have := n.apart (k + 1) (l + 1) xs ys a h1 h2 h3 h4; omega⟩
    obtain ⟨u, hv, so⟩ := n.slot 0 b rfl
    cases hv
    have step : ∀ (b : S) (hs : Sta κ T Fp F0 H0 F' H' (σ.set i (some v)) (ρ.set i b) τ') (ho : ∀ (xs : List D) (a : Addr), b = .own xs → v = .ref a → ∀ (k : Nat) (ys : List D), ss[k]? = some (.own ys) → vs[k]? ≠ some (.ref a)), Sta κ T Fp F0 H0 F' H' (setV σ (i :: is) (v :: vs)) (setS ρ (i :: is) (b :: ss)) τ' := fun b hs ho => by
      refine Sta.news x is hs hk (fun j ys a h1 h2 k xs h3 h4 => ?_) n' fun s hs => hu s (List.mem_cons_of_mem _ hs)
      rcases get_set h1 with ⟨e, e2, hl⟩ | ⟨ne, h1⟩
      · subst e
        rw [List.getElem?_set_self (by rw [s.sr.len]; exact hl)] at h2
        cases h2
        exact ho ys a e2.symm rfl k xs h3 h4
      · rw [List.getElem?_set_ne ne] at h2
        exact hn j ys a h1 h2 (k + 1) xs h3 h4
    cases b with
    | un => exact absurd rfl (hu .un List.mem_cons_self)
    | d d =>
      obtain ⟨y, ey, ry⟩ := so
      cases ey
      exact step (.d d) (s.set i ry) fun _ _ e => nomatch e
    | own ds =>
      obtain ⟨a, us, ey, h1, h2, h3, h4⟩ := so
      cases ey
      refine step (.own ds) (s.own i h1 h2 h3 h4 ?_ fun j ys _ h5 h6 => hn j ys a h5 h6 0 ds rfl rfl) fun xs b e1 e2 k ys h5 h6 => ?_
      · cases z : H0 a with
        | none => rfl
        | some o =>
          obtain ⟨u, hu⟩ := hk a o z h3
          rw [n.was 0 ds a rfl rfl] at hu
          cases hu
      · cases e2
        have := n.apart 0 (k + 1) ds ys a rfl h5 rfl h6
        omega
def gNames : List Nat → TGs
  | [] => gNil
  | i :: is => gCons (gName i) (gNames is)
theorem gNames_set : ∀ (is : List Nat) (vs : List V) {σ : L2.St} {H : Hp} {Q : L2.St → Hp → Prop}, is.length = vs.length → Q (setV σ is vs) H → gNames is vs σ H Q
  | [], [], _, _, _, _, h => ⟨rfl, h⟩
  | i :: is, v :: vs, σ, H, Q, hl, h => ⟨v, vs, rfl, gNames_set is vs (by simpa using hl) h⟩
def sMany (is : List Nat) (f : Env → M (List S)) : G := fun ρ τ => bO (f ρ) ρ (fun ss τ1 => if is.length = ss.length then .nx (setS ρ is ss) τ1 else .no) τ
theorem bX_of {κ : Kc} {mg : Str → Option Value} {T : Option Addr} {Fp F0 H0 F H : Hp} {σ : L2.St} {ρ : Env} {τ : Tin} {Ed : Ends} {k : List S → Tin → O} (s : Sta κ T Fp F0 H0 F H σ ρ τ) (h : wpO κ mg W T Fp F0 H0 Ed (bO (fs ρ) ρ k τ)) :
    tX κ mg W fs σ H fun v H1 => ∃ F1 τ1 ss, Ext T F H F1 H1 τ1 ∧ Sta κ T Fp F0 H0 F1 H1 σ ρ τ1 ∧ News κ T H F1 H1 v ss ∧ wpO κ mg W T Fp F0 H0 Ed (k ss τ1) := by
  refine ⟨T, F, ρ, τ, s.sr, ?_⟩
  unfold bO at h
  cases e : fs ρ τ with
  | ok d τ1 =>
    rw [e] at h
    exact fun v F1 H1 x r => ⟨F1, τ1, d, x, s.ext x, r, h⟩
  | exc c τ1 =>
    rw [e] at h
    exact fun F' H' cl x hm => h F' H' σ cl (s.ext x) hm
  | no => rw [e] at h; exact h
/-- names that are someone's own are none of the new ones -/
theorem old_new {κ : Kc} {T : Option Addr} {Fp F0 H0 F H F' H' : Hp} {σ : L2.St} {ρ : Env} {τ : Tin} {vs : List V} {ss : List S} (s : Sta κ T Fp F0 H0 F H σ ρ τ) (n : News κ T H F' H' vs ss) :
    ∀ (j : Nat) (ys : List D) (a : Addr), ρ[j]? = some (.own ys) → σ[j]? = some (some (.ref a)) → ∀ (k : Nat) (xs : List D), ss[k]? = some (.own xs) → vs[k]? ≠ some (.ref a) := fun j ys a h1 h2 k xs h3 h4 => by
  obtain ⟨u, hu, b, us, e1, e2, _⟩ := s.sr.slot j _ h1
  rw [h2] at hu
  cases hu
  cases e1
  rw [n.was k xs a h3 h4] at e2
  cases e2
/-- a, b, .. = e1, e2, .. -/
theorem ds_many {k k2 n : Nat} {pt p2 : Pos} (is : List Nat) (hc : X.calm = true) (ha : DX X W es fs) (hg : PGs X tgs (gNames is)) (hun : ∀ ρ τ ss τ', fs ρ τ = .ok ss τ' → ∀ s ∈ ss, s ≠ .un)
    (hn : (assignEach tgs X.env).length = n := by rfl) (hst : (assignEach tgs X.env).findIdx? (·.1) = none := by rfl) (hs : swapsWithSole [.Tuple tgs k pt] (.Tuple es k2 p2) pos.line X.env = pure false := by rfl)
    (hw : swappedStores [.Tuple tgs k pt] (.Tuple es k2 p2) X.env = pure none := by rfl) (h1 : (assignEach [.Tuple tgs k pt] X.env).map (·.2) = [assign (.Tuple tgs k pt) X.env] := by rfl) (hni : is.length = n := by rfl) (hz : n ≤ sizeLine := by decide) :
    DS X W (.Assign [.Tuple tgs k pt] (.Tuple es k2 p2) pos) (sMany is fs) := impPS (ps_asg (pe_tup ha) (pg_tup hc hg hn hst) hs hw h1) fun D σ H ⟨T, Fp, F0, H0, F, ρ, τ, s, q⟩ => by
  have hun' := hun ρ τ
  have key : tX (kc X) X.mg W fs σ H fun v H1 => ∃ F1 τ1 ss, Ext T F H F1 H1 τ1 ∧ Sta (kc X) T Fp F0 H0 F1 H1 σ ρ τ1 ∧ News (kc X) T H F1 H1 v ss ∧ (∀ s ∈ ss, s ≠ .un) ∧ wpO (kc X) X.mg W T Fp F0 H0 D (if is.length = ss.length then .nx (setS ρ is ss) τ1 else .no) := by
    refine ⟨T, F, ρ, τ, s.sr, ?_⟩
    have q : wpO (kc X) X.mg W T Fp F0 H0 D (bO (fs ρ) ρ (fun ss τ1 => if is.length = ss.length then .nx (setS ρ is ss) τ1 else .no) τ) := q
    unfold bO at q
    cases e : fs ρ τ with
    | ok d τ1 =>
      rw [e] at q
      exact fun v F1 H1 x r => ⟨F1, τ1, d, x, s.ext x, r, hun' d τ1 e, q⟩
    | exc c τ1 =>
      rw [e] at q
      exact fun F' H' cl x hm => q F' H' σ cl (s.ext x) hm
    | no => rw [e] at q; exact q
  refine tX_mono key fun vs H1 ⟨F1, τ1, ss, x1, s1, n1, nu, q1⟩ => ?_
  split at q1
  · rename_i hl
    have hvl : vs.length = n := n1.len.trans (hl.symm.trans hni)
    refine ⟨by rw [hvl]; exact hz, fun p hp => ⟨p, vs, rfl, SqT.of upd_same, hvl, gNames_set is vs (hni.trans hvl.symm) ?_⟩⟩
    have x2 := s1.sr.bs.aside (o := .tup vs) hp
    have n2 : News (kc X) T H F1 (upd H1 p (.tup vs)) vs ss := ⟨n1.len, fun k s h => by
      obtain ⟨v, hv, so⟩ := n1.slot k s h
      refine ⟨v, hv, ?_⟩
      cases s with
      | un => trivial
      | d d => exact so
      | own zs =>
        obtain ⟨a, us, e1, e2, e3, e4, e5⟩ := so
        exact ⟨a, us, e1, x2.keep _ _ e2 e4, e3, e4, e5⟩, n1.was, n1.apart⟩
    refine q1 F1 _ _ (Sta.news (x1.trans x2) is (s1.ext x2) (fun a o h ht => ?_) (old_new s n1) n2 nu)
    exact ⟨o, s.ex.keep a o h ht⟩
  · exact q1.elim
/-- a, b = e1, e2, local names -/
theorem ds_par {i j : Nat} {x y : Str} {a b : Expr} {px py pt pt2 : Pos} {kt k2 : Nat} (hc : X.calm = true) (hN : X.N.Nodup) (hi : X.N[i]? = some x) (hj : X.N[j]? = some y) (hij : i ≠ j) (hx : X.env.scope.names.lookup x = some .local) (hy : X.env.scope.names.lookup y = some .local) (ha : DX X W [a, b] fs)
    (hun : ∀ ρ τ ss τ', fs ρ τ = .ok ss τ' → ∀ s ∈ ss, s ≠ .un)
    (hw : swappedStores [.Tuple [.Name x px, .Name y py] kt pt] (.Tuple [a, b] k2 pt2) X.env = pure (some [x, y])) (hs : swapsWithSole [.Tuple [.Name x px, .Name y py] kt pt] (.Tuple [a, b] k2 pt2) pos.line X.env = pure false := by rfl) :
    DS X W (.Assign [.Tuple [.Name x px, .Name y py] kt pt] (.Tuple [a, b] k2 pt2) pos) (sMany [i, j] fs) := impPS (ps_par hc hN hi hj hij hx hy ha hw hs) fun D σ H ⟨T, Fp, F0, H0, F, ρ, τ, s, q⟩ => by
  have key : tX (kc X) X.mg W fs σ H fun v H1 => ∃ F1 τ1 ss, Ext T F H F1 H1 τ1 ∧ Sta (kc X) T Fp F0 H0 F1 H1 σ ρ τ1 ∧ News (kc X) T H F1 H1 v ss ∧ (∀ s ∈ ss, s ≠ .un) ∧ wpO (kc X) X.mg W T Fp F0 H0 D (if [i, j].length = ss.length then .nx (setS ρ [i, j] ss) τ1 else .no) := by
    refine ⟨T, F, ρ, τ, s.sr, ?_⟩
    have q : wpO (kc X) X.mg W T Fp F0 H0 D (bO (fs ρ) ρ (fun ss τ1 => if [i, j].length = ss.length then .nx (setS ρ [i, j] ss) τ1 else .no) τ) := q
    unfold bO at q
    have hun' := hun ρ τ
    cases e : fs ρ τ with
    | ok d τ1 =>
      rw [e] at q
      exact fun v F1 H1 x r => ⟨F1, τ1, d, x, s.ext x, r, hun' d τ1 e, q⟩
    | exc c τ1 =>
      rw [e] at q
      exact fun F' H' cl x hm => q F' H' σ cl (s.ext x) hm
    | no => rw [e] at q; exact q
  refine tX_mono key fun vs H1 ⟨F1, τ1, ss, x1, s1, n1, nu, q1⟩ => ?_
  split at q1
  · rename_i hl
    have hl : 2 = ss.length := hl
    have hvl : vs.length = 2 := n1.len.trans hl.symm
    match vs, hvl, n1 with
    | [v, w], _, n1 =>
      refine ⟨v, w, rfl, q1 F1 H1 _ (Sta.news x1 [i, j] s1 (fun a o h ht => ⟨o, s.ex.keep a o h ht⟩) (old_new s n1) n1 nu)⟩
  · exact q1.elim
theorem xNil_un : ∀ ρ τ ss τ', xNil ρ τ = .ok ss τ' → ∀ s ∈ ss, s ≠ .un := fun ρ τ ss τ' h s hs => by
  cases h; cases hs
theorem bind_okE {α β : Type} {x : M α} {f : α → M β} {τ τ' : Tin} {b : β} (h : M.bind x f τ = .ok b τ') : ∃ a τ1, x τ = .ok a τ1 ∧ f a τ1 = .ok b τ' := by
  unfold M.bind at h
  cases e : x τ with
  | ok a τ1 => rw [e] at h; exact ⟨a, τ1, rfl, h⟩
  | exc c τ1 => rw [e] at h; cases h
  | no => rw [e] at h; cases h
theorem xVal_un (h : ∀ ρ τ ss τ', fs ρ τ = .ok ss τ' → ∀ s ∈ ss, s ≠ .un) : ∀ ρ τ ss τ', xVal fa fs ρ τ = .ok ss τ' → ∀ s ∈ ss, s ≠ .un := fun ρ τ ss τ' q s hs => by
  obtain ⟨d, τ1, e1, q⟩ := bind_okE q
  obtain ⟨ds, τ2, e2, q⟩ := bind_okE q
  cases q
  rcases List.mem_cons.mp hs with z | z
  · rw [z]; exact fun w => nomatch w
  · exact h ρ τ1 ds _ e2 s z
theorem xOwn_un (h : ∀ ρ τ ss τ', fs ρ τ = .ok ss τ' → ∀ s ∈ ss, s ≠ .un) : ∀ ρ τ ss τ', xOwn ff fs ρ τ = .ok ss τ' → ∀ s ∈ ss, s ≠ .un := fun ρ τ ss τ' q s hs => by
  obtain ⟨d, τ1, e1, q⟩ := bind_okE q
  obtain ⟨ds, τ2, e2, q⟩ := bind_okE q
  cases q
  rcases List.mem_cons.mp hs with z | z
  · rw [z]; exact fun w => nomatch w
  · exact h ρ τ1 ds _ e2 s z
end
end DL
end

section
set_option Elab.async false
set_option linter.all false
set_option maxRecDepth 100000
set_option maxHeartbeats 2000000
/-! DLK: stores to lists of one's own, enumerate, zip, or; defs -/
namespace DL
open PySem PySem.Spec PyProof.Rows L2

/-! ### a list of one's own is changed -/
/-- the own list of a slot, its new items -/
def upOwn (i : Nat) (ρ : Env) (f : List D → Option (List D)) (τ : Tin) : O := match ρ[i]? with
  | some (.own xs) => (match f xs with
    | some ys => .nx (ρ.set i (.own ys)) τ
    | none => .no)
  | _ => .no
def sApp (i : Nat) (fa : Env → M D) : G := fun ρ τ => bO (fa ρ) ρ (fun d τ1 => upOwn i ρ (fun xs => if xs.length < sizeLine then some (xs ++ [d]) else none) τ1) τ
def sExt (i : Nat) (fa : Env → M D) : G := fun ρ τ => bO (fa ρ) ρ (fun d τ1 => upOwn i ρ (fun xs => match d with
  | .lst ys => if xs.length + ys.length ≤ sizeLine then some (xs ++ ys) else none
  | _ => none) τ1) τ
def sSetI (i : Nat) (fi fa : Env → M D) : G := fun ρ τ => bO (fa ρ) ρ (fun d τ1 => bO (fi ρ) ρ (fun k τ2 => upOwn i ρ (fun xs => match k with
  | .int k => (ixN xs.length k).map fun j => xs.set j d
  | _ => none) τ2) τ1) τ
/-- x = line.pop() -/
def sPop (j i : Nat) : G := fun ρ τ => match ρ[i]? with
  | some (.own xs) => (match xs[xs.length - 1]? with
    | some d => if xs = [] then .no else .nx ((ρ.set i (.own xs.dropLast)).set j (.d d)) τ
    | none => .no)
  | _ => .no
section
variable {X : Cx} {W : WX} {e ie : Expr} {fa fi : Env → M D} {x y : Str} {p p2 apos cpos pos : Pos}
theorem upOwn_of {κ : Kc} {mg : Str → Option Value} {T : Option Addr} {Fp F0 H0 F H : Hp} {σ : L2.St} {ρ : Env} {τ : Tin} {Ed : Ends} {i : Nat} {f : List D → Option (List D)} (s : Sta κ T Fp F0 H0 F H σ ρ τ) (h : wpO κ mg W T Fp F0 H0 Ed (upOwn i ρ f τ)) :
    ∃ a vs xs ys, σ[i]? = some (some (.ref a)) ∧ H a = some (.lst vs) ∧ RepAll κ T F vs xs ∧ f xs = some ys ∧ ∀ ws, RepAll κ T F ws ys → Ed.nx σ (upd H a (.lst ws)) := by
  unfold upOwn at h
  cases hi : ρ[i]? with
  | none => rw [hi] at h; exact h.elim
  | some u =>
    rw [hi] at h
    cases u with
    | own xs =>
      obtain ⟨v, hv, a, vs, rfl, h1, h2, h3, h4⟩ := s.sr.slot i _ hi
      cases hf : f xs with
      | none =>
        have h : wpO κ mg W T Fp F0 H0 Ed (match f xs with | some ys => .nx (ρ.set i (.own ys)) τ | none => .no) := h
        rw [hf] at h; exact h.elim
      | some ys =>
        have h : wpO κ mg W T Fp F0 H0 Ed (match f xs with | some ys => .nx (ρ.set i (.own ys)) τ | none => .no) := h
        rw [hf] at h
        exact ⟨a, vs, xs, ys, hv, h1, h4, hf, fun ws r => h F _ σ (s.wr hi hv r)⟩
    | _ => exact h.elim
theorem tVar_at {σ : L2.St} {H : Hp} {Q : VK} {i : Nat} {v : V} (h : σ[i]? = some (some v)) (q : Q v H) : tVar i σ H Q := ⟨v, h, q⟩
/-- the own list at slot i, now -/
theorem own_at {κ : Kc} {T : Option Addr} {Fp F0 H0 F H : Hp} {σ : L2.St} {ρ : Env} {τ : Tin} {i : Nat} {xs : List D} (s : Sta κ T Fp F0 H0 F H σ ρ τ) (hi : ρ[i]? = some (.own xs)) : ∃ a vs, σ[i]? = some (some (.ref a)) ∧ H a = some (.lst vs) ∧ T ≠ some a := by
  obtain ⟨v, hv, a, vs, rfl, h1, h2, h3, h4⟩ := s.sr.slot i _ hi
  exact ⟨a, vs, hv, h1, h3⟩
theorem upOwn_own {κ : Kc} {mg : Str → Option Value} {T : Option Addr} {Fp F0 H0 : Hp} {ρ : Env} {τ : Tin} {Ed : Ends} {i : Nat} {f : List D → Option (List D)} (h : wpO κ mg W T Fp F0 H0 Ed (upOwn i ρ f τ)) : ∃ xs, ρ[i]? = some (.own xs) := by
  unfold upOwn at h
  cases hi : ρ[i]? with
  | none => rw [hi] at h; exact h.elim
  | some u =>
    rw [hi] at h
    cases u with
    | own xs => exact ⟨xs, rfl⟩
    | _ => exact h.elim
/-- what is asked ahead of it: the slot holds a list of one's own, whatever the argument does -/
def ownAt (i : Nat) (g : G) : G := fun ρ τ => match ρ[i]? with
  | some (.own _) => g ρ τ
  | _ => .no
theorem ownAt_of {κ : Kc} {mg : Str → Option Value} {T : Option Addr} {Fp F0 H0 : Hp} {ρ : Env} {τ : Tin} {Ed : Ends} {i : Nat} {g : G} (h : wpO κ mg W T Fp F0 H0 Ed (ownAt i g ρ τ)) : (∃ xs, ρ[i]? = some (.own xs)) ∧ wpO κ mg W T Fp F0 H0 Ed (g ρ τ) := by
  unfold ownAt at h
  cases hi : ρ[i]? with
  | none => rw [hi] at h; exact h.elim
  | some u =>
    rw [hi] at h
    cases u with
    | own xs => exact ⟨⟨xs, rfl⟩, h⟩
    | _ => exact h.elim
theorem ds_app (i : Nat) (ha : DE X W false e fa) (hN : X.N[i]? = some x := by rfl) (hv : Vis X.env.scope x := by first | exact Or.inl rfl | exact Or.inr (Or.inl rfl) | exact Or.inr (Or.inr rfl)) (hd : (x == ("__debug__" : Str)) = false := by decide)
    (hcd : (x == ("__classdict__" : Str)) = false := by decide)
    (hbase : attributeBase (.Name x p) "append" X.env (eval (.Name x p) X.env) = eval (.Name x p) X.env := by rfl)
    (hfew : ((backTo cpos (starEach [e] X.env)).all (fun x => !x.1) && (backToKw cpos (keywordEach [] X.env)).all (fun x => x.1.isSome)
      && decide ([e].length + ([] : List Keyword).length + (if ([] : List Keyword).isEmpty then 0 else 1) < 30)) = true := by rfl)
    (hline : (apos.endLine == cpos.line) = true := by rfl) (hs : starEach [e] X.env = (false, eval e X.env) :: starEach [] X.env := by rfl) (hplain : (backTo cpos (starEach [] X.env)).any (·.1) = false := by rfl)
    (hsw : swapsWith (.Call (.Attribute (.Name x p) "append" apos) [e] [] cpos) none pos.line X.env = pure false := by rfl) :
    DS X W (.Expr (.Call (.Attribute (.Name x p) "append" apos) [e] [] cpos) pos) (ownAt i (sApp i fa)) :=
  impPS (ps_expr (pe_bm PySem.F.plainAttrs_list PySem.F.slot_list_append PySem.F.type_list_append mt_append (pe_var hN hv hd hcd) (pa_cons ha pa_nil hs) hbase hfew hline hs hplain) hsw) fun D σ H ⟨T, Fp, F0, H0, F, ρ, τ, s, q⟩ => by
    obtain ⟨⟨xs, hi⟩, q⟩ := ownAt_of q
    obtain ⟨a, vs, hσ, hH, hT⟩ := own_at s hi
    refine ⟨_, hσ, .inl ⟨rfl, vs, SqL.of hH⟩, ?_⟩
    refine tD_mono (bD_of (m := false) s q) fun v H1 ⟨F1, τ1, d, x1, s1, r1, q1⟩ => ?_
    obtain ⟨b, ws, zs, ys, e1, e2, e3, e4, e5⟩ := upOwn_of s1 q1
    rw [hσ] at e1
    cases e1
    split at e4
    · rename_i hl
      cases e4
      exact ⟨a, ws, v, rfl, rfl, e2, by rw [e3.length]; exact hl, e5 _ (e3.append (.cons r1 .nil))⟩
    · cases e4
theorem ds_ext (i : Nat) (ha : DE X W true e fa) (hN : X.N[i]? = some x := by rfl) (hv : Vis X.env.scope x := by first | exact Or.inl rfl | exact Or.inr (Or.inl rfl) | exact Or.inr (Or.inr rfl)) (hd : (x == ("__debug__" : Str)) = false := by decide)
    (hcd : (x == ("__classdict__" : Str)) = false := by decide)
    (hbase : attributeBase (.Name x p) "extend" X.env (eval (.Name x p) X.env) = eval (.Name x p) X.env := by rfl)
    (hfew : ((backTo cpos (starEach [e] X.env)).all (fun x => !x.1) && (backToKw cpos (keywordEach [] X.env)).all (fun x => x.1.isSome)
      && decide ([e].length + ([] : List Keyword).length + (if ([] : List Keyword).isEmpty then 0 else 1) < 30)) = true := by rfl)
    (hline : (apos.endLine == cpos.line) = true := by rfl) (hs : starEach [e] X.env = (false, eval e X.env) :: starEach [] X.env := by rfl) (hplain : (backTo cpos (starEach [] X.env)).any (·.1) = false := by rfl)
    (hsw : swapsWith (.Call (.Attribute (.Name x p) "extend" apos) [e] [] cpos) none pos.line X.env = pure false := by rfl) :
    DS X W (.Expr (.Call (.Attribute (.Name x p) "extend" apos) [e] [] cpos) pos) (ownAt i (sExt i fa)) :=
  impPS (ps_expr (pe_bm PySem.F.plainAttrs_list PySem.F.slot_list_extend PySem.F.type_list_extend mt_extend (pe_var hN hv hd hcd) (pa_cons ha pa_nil hs) hbase hfew hline hs hplain) hsw) fun D σ H ⟨T, Fp, F0, H0, F, ρ, τ, s, q⟩ => by
    obtain ⟨⟨xs, hi⟩, q⟩ := ownAt_of q
    obtain ⟨a, vs, hσ, hH, hT⟩ := own_at s hi
    refine ⟨_, hσ, .inl ⟨rfl, vs, SqL.of hH⟩, ?_⟩
    refine tD_mono (bD_of (m := true) s q) fun v H1 ⟨F1, τ1, d, x1, s1, r1, q1⟩ => ?_
    obtain ⟨b, ws, zs, ys, e1, e2, e3, e4, e5⟩ := upOwn_of s1 q1
    rw [hσ] at e1
    cases e1
    split at e4
    · rename_i ks
      split at e4
      · rename_i hl
        cases e4
        obtain ⟨c, us, ex, hc, rc⟩ := RepTop.lst r1 s1.sr.bs.le
        exact ⟨a, c, ws, us, rfl, by rw [ex], e2, hc, by rw [e3.length, rc.length]; exact hl, e5 _ (e3.append rc)⟩
      · cases e4
    · cases e4
theorem ds_setI (i : Nat) (ha : DE X W false e fa) (hk : DE X W false ie fi) (hN : X.N[i]? = some x := by rfl) (hv : Vis X.env.scope x := by first | exact Or.inl rfl | exact Or.inr (Or.inl rfl) | exact Or.inr (Or.inr rfl)) (hd : (x == ("__debug__" : Str)) = false := by decide)
    (hcd : (x == ("__classdict__" : Str)) = false := by decide)
    (hst : ∀ v, assign (.Subscript (.Name x p) ie p2) X.env v = (do
      let ov ← holding [v] (eval (.Name x p) X.env)
      let iv ← holding [v, ov] (eval ie X.env)
      standAt p2
      holding [v, ov, iv] (setItem ov iv v)
      release [v, ov, iv] []) := by intro _; rfl)
    (hs : swapsWithSole [.Subscript (.Name x p) ie p2] e pos.line X.env = pure false := by rfl) (hw : swappedStores [.Subscript (.Name x p) ie p2] e X.env = pure none := by rfl)
    (h1 : (assignEach [.Subscript (.Name x p) ie p2] X.env).map (·.2) = [assign (.Subscript (.Name x p) ie p2) X.env] := by rfl) :
    DS X W (.Assign [.Subscript (.Name x p) ie p2] e pos) (ownAt i (sSetI i fi fa)) :=
  impPS (ps_asg ha (pg_sub (pe_var hN hv hd hcd) hk set_list hst) hs hw h1) fun D σ H ⟨T, Fp, F0, H0, F, ρ, τ, s, q⟩ => by
    obtain ⟨⟨xs, hi⟩, q⟩ := ownAt_of q
    obtain ⟨a, vs, hσ, hH, hT⟩ := own_at s hi
    refine tD_mono (bD_of (m := false) s q) fun v H1 ⟨F1, τ1, d, x1, s1, r1, q1⟩ => ?_
    refine ⟨_, hσ, tD_mono (bD_of (m := false) s1 q1) fun u H2 ⟨F2, τ2, k, x2, s2, r2, q2⟩ => ?_⟩
    obtain ⟨b, ws, zs, ys, e1, e2, e3, e4, e5⟩ := upOwn_of s2 q2
    rw [hσ] at e1
    cases e1
    split at e4
    · rename_i kk
      cases r2
      cases ej : ixN zs.length kk with
      | none => rw [ej] at e4; cases e4
      | some j =>
        rw [ej] at e4
        cases e4
        exact ⟨a, ws, kk, j, rfl, rfl, e2, by rw [e3.length]; exact ej, e5 _ (e3.set j (r1.mono x2.le))⟩
    · cases e4
theorem RepAll.dropLast {κ : Kc} {T : Option Addr} {F : Hp} {vs : List V} {ds : List D} (r : RepAll κ T F vs ds) : RepAll κ T F vs.dropLast ds.dropLast := by
  rw [List.dropLast_eq_take, List.dropLast_eq_take, r.length]
  exact r.take _
theorem ds_pop (j i : Nat) (hN : X.N[i]? = some x := by rfl) (hv : Vis X.env.scope x := by first | exact Or.inl rfl | exact Or.inr (Or.inl rfl) | exact Or.inr (Or.inr rfl)) (hd : (x == ("__debug__" : Str)) = false := by decide)
    (hcd : (x == ("__classdict__" : Str)) = false := by decide) (hnd : X.N.Nodup) (hj : X.N[j]? = some y := by rfl) (hy : Loc X.env.scope y := by first | exact .inl rfl | exact .inr rfl)
    (hbase : attributeBase (.Name x p) "pop" X.env (eval (.Name x p) X.env) = eval (.Name x p) X.env := by rfl) (hline : (apos.endLine == cpos.line) = true := by rfl)
    (hs : swapsWith (.Call (.Attribute (.Name x p) "pop" apos) [] [] cpos) (some (.Name y p2)) pos.line X.env = pure false := by rfl) (hf : X.fn y = true ∨ X.env.scope.names.lookup y = some .local := by first | exact .inl rfl | exact .inr rfl | assumption) :
    DS X W (.Assign [.Name y p2] (.Call (.Attribute (.Name x p) "pop" apos) [] [] cpos) pos) (sPop j i) :=
  impPS (ps_set hnd hj hy (pe_bm0 PySem.F.plainAttrs_list PySem.F.slot_list_pop PySem.F.type_list_pop mt_pop (pe_var hN hv hd hcd) hbase hline) hs hf) fun D σ H ⟨T, Fp, F0, H0, F, ρ, τ, s, q⟩ => by
    unfold sPop at q
    cases hi : ρ[i]? with
    | none => rw [hi] at q; exact q.elim
    | some u =>
      rw [hi] at q
      cases u with
      | own xs =>
        obtain ⟨v, hσ, a, vs, rfl, hH, h2, h3, h4⟩ := s.sr.slot i _ hi
        have q : wpO (kc X) X.mg W T Fp F0 H0 D (match xs[xs.length - 1]? with
          | some d => if xs = [] then .no else .nx ((ρ.set i (.own xs.dropLast)).set j (.d d)) τ
          | none => .no) := q
        cases hx : xs[xs.length - 1]? with
        | none => rw [hx] at q; exact q.elim
        | some d =>
          rw [hx] at q
          obtain ⟨u, hu, ru⟩ := h4.get hx
          have q : wpO (kc X) X.mg W T Fp F0 H0 D (if xs = [] then .no else .nx ((ρ.set i (.own xs.dropLast)).set j (.d d)) τ) := q
          by_cases hn : xs = []
          · rw [if_pos hn] at q; exact q.elim
          · rw [if_neg hn] at q
            exact ⟨_, hσ, .inl ⟨rfl, vs, SqL.of hH⟩, a, vs, u, rfl, rfl, hH, by rw [h4.length]; exact hu, q F _ _ ((s.wr hi hσ h4.dropLast).set j ru)⟩
      | _ => exact q.elim

/-! ### or -/
def fOr (fa fb : Env → M (List D)) : Env → M (List D) := fun ρ => M.bind (fa ρ) fun xs => if xs.isEmpty = true then fb ρ else M.pure xs
theorem df_or {b : Expr} {fa fb : Env → M (List D)} (ha : DF X W e fa) (hb : DF X W b fb) : DF X W (.BoolOp .Or [e, b] pos) (fOr fa fb) := impPE (pe_orT ha (pe_one hb)) fun σ H Q ⟨T, F, ρ, τ, s, q⟩ => by
  refine tF_mono (tF_of s s.bs.refl q) fun x H1 ⟨F1, τ1, a, vs, ds, ex, x1, s1, h0, h1, h2, h3, r1, q1⟩ => ?_
  subst ex
  refine ⟨!vs.isEmpty, .inl ⟨vs, SqL.of h2, rfl⟩, ?_⟩
  cases ds with
  | nil =>
    cases r1
    refine ⟨T, F1, ρ, τ1, s1, wpR_mono q1 (fun es τ2 q2 b us F2 H2 y g0 g1 g2 g3 r2 => q2 b us F2 H2 (x1.trans y) (was_free x1 g0) g1 g2 g3 r2) fun _ _ z => z.ext x1⟩
  | cons d ds =>
    cases r1 with
    | cons r t => exact q1 a _ F1 H1 x1 h0 h1 h2 h3 (.cons r t)

/-! ### enumerate, zip -/
def numD (n : Nat) : List D := (List.range n).map fun i => .int (i : Nat)
theorem numD_get {n i : Nat} {d : D} (h : (numD n)[i]? = some d) : d = .int (i : Nat) := by
  unfold numD at h
  rw [List.getElem?_map] at h
  cases e : (List.range n)[i]? with
  | none => rw [e] at h; cases h
  | some j =>
    rw [e] at h
    cases h
    obtain ⟨h1, h2⟩ := List.getElem?_eq_some_iff.mp e
    rw [List.getElem_range] at h2
    rw [h2]
theorem pairD_len (ds es : List D) : (pairD ds es).length = min ds.length es.length := by
  unfold pairD
  rw [List.length_map, List.length_zip]
def iEnumL (fa : Env → M D) : Env → M (List D) := fun ρ => M.bind (fa ρ) fun x => match x with
  | .lst xs => M.pure (pairD (numD xs.length) xs)
  | _ => M.no
theorem di_enumL {elts : List Expr} {kk : Nat} {tpos : Pos} (hg : Gl X "enumerate") (hm : X.mg "enumerate" = none) (ha : DE X W false e fa) (hs : starEach [e] X.env = [(false, eval e X.env)] := by rfl) (he : starEach [e] X.env = (false, eval e X.env) :: starEach [] X.env := by rfl) :
    DI X W (.Tuple elts kk tpos) (.Call (.Name "enumerate" p) [e] [] pos) (iEnumL fa) := impPI (pi_enum hg hm (pa_cons ha pa_nil he) hs) fun σ H R ⟨T, F, ρ, τ, s, q⟩ => by
  refine tD_mono (tD_of (m := false) s s.bs.refl q) fun x H1 ⟨F1, τ1, d, x1, y1, s1, r1, q1⟩ => ?_
  cases r1 with
  | @lst a vs ds hq hr =>
    refine ⟨a, vs, rfl, SqL.of (s1.bs.le _ _ hq), q1 _ F1 H1 x1 ⟨YPair (fun i => some (.int (i : Nat))) (fun i => vs[i]?), ?_, ypair (fun i d x h1 h2 => ?_) (fun i d x h1 h2 => ?_)⟩⟩
    · have el : (pairD (numD ds.length) ds).length = vs.length := by
        rw [pairD_len, hr.length]
        unfold numD
        rw [List.length_map, List.length_range, Nat.min_self]
      rw [el]
      exact walk_enum.mono (fun H le => SqL.of (le _ _ hq)) fun _ _ _ _ _ _ y => y
    · rw [numD_get h1]
      cases h2
      exact .int _
    · obtain ⟨v, hv, rv⟩ := hr.get h1
      rw [h2] at hv
      cases hv
      exact rv
  | _ => exact q1.elim
theorem walk_zipT {K : PySem.W.Frag} {a b : Addr} {xs ys : List V} {n : Nat} (hn : n = min xs.length ys.length) : Walk (RZ.ItzT K a b) n (fun H => SqT K H a xs ∧ SqT K H b ys) (YPair (fun i => xs[i]?) (fun i => ys[i]?)) := by
  subst hn
  refine ⟨fun i H hi q => ?_, fun H q => ⟨xs, ys, q.1, q.2, by omega⟩, fun i H v H' hi q y => ?_⟩
  · have h1 : i < xs.length := by omega
    have h2 : i < ys.length := by omega
    exact ⟨xs, ys, xs[i], ys[i], q.1, q.2, by simp [h1], by simp [h2]⟩
  · obtain ⟨T, x, z, h1, h2, h3, h4, h5⟩ := y
    exact ⟨T, x, z, h1, h2, h3, h4 xs q.1, h5 ys q.2⟩
def zipOf : D → D → Option (List D)
  | .lst xs, .lst ys => some (pairD xs ys)
  | .tup xs, .tup ys => some (pairD xs ys)
  | _, _ => none
def iZip (fa fb : Env → M D) : Env → M (List D) := fun ρ => M.bind (fa ρ) fun x => M.bind (fb ρ) fun y => M.lift (zipOf x y)
theorem di_zip {e2 : Expr} {fb : Env → M D} {elts : List Expr} {kk : Nat} {tpos : Pos} (hg : Gl X "zip") (hm : X.mg "zip" = none) (ha : DE X W false e fa) (hb : DE X W false e2 fb)
    (hs : starEach [e, e2] X.env = (false, eval e X.env) :: starEach [e2] X.env := by rfl) (hs2 : starEach [e2] X.env = (false, eval e2 X.env) :: starEach [] X.env := by rfl) (hpl : (backTo pos (starEach [e2] X.env)).any (·.1) = false := by rfl) :
    DI X W (.Tuple elts kk tpos) (.Call (.Name "zip" p) [e, e2] [] pos) (iZip fa fb) := impPI (RZ.pi_zipA hg hm (pa_cons ha (pa_cons hb pa_nil hs2) hs) hs hpl) fun σ H R ⟨T, F, ρ, τ, s, q⟩ => by
  refine tD_mono (tD_of (m := false) s s.bs.refl q) fun x H1 ⟨F1, τ1, d, x1, y1, s1, r1, q1⟩ => ?_
  refine tD_mono (tD_of (m := false) s1 x1 q1) fun y H2 ⟨F2, τ2, d2, x2, y2, s2, r2, q2⟩ => ?_
  obtain ⟨zs, ez, q3⟩ := wpR_lift q2
  have r1 : Rep (kc X) T F1 x d := r1
  have fin : ∀ {vs ws : List V} {ds es : List D}, RepAll (kc X) T F1 vs ds → RepAll (kc X) T F2 ws es → ∀ (i : Nat) (d : D) (H : Hp) (x : V) (H' F : Hp) (τ : Tin), (pairD ds es)[i]? = some d → YPair (fun i => vs[i]?) (fun i => ws[i]?) i H x H' → Bs T F H τ → Same F2 F → ∃ F', Ext T F H F' H' τ ∧ Rep (kc X) T F' x d :=
    fun rv rw' => ypair (fun i d x h1 h2 => by
      obtain ⟨v, hv, rr⟩ := rv.get h1
      rw [h2] at hv
      cases hv
      exact rr.mono y2.le) (fun i d x h1 h2 => by
      obtain ⟨v, hv, rr⟩ := rw'.get h1
      rw [h2] at hv
      cases hv
      exact rr)
  cases r1 with
  | @lst a vs ds hq hr =>
    cases r2 with
    | @lst b ws es hq2 hr2 =>
      cases ez
      refine ⟨a, b, vs, ws, rfl, .inl ⟨SqL.of (s2.bs.le _ _ (y2.le _ _ hq)), SqL.of (s2.bs.le _ _ hq2), q3 _ F2 H2 x2 ⟨_, ?_, fin hr hr2⟩⟩⟩
      rw [pairD_len, ← hr.length, ← hr2.length]
      exact (walk_zip rfl).mono (fun H le => ⟨SqL.of (le _ _ (y2.le _ _ hq)), SqL.of (le _ _ hq2)⟩) fun _ _ _ _ _ _ y => y
    | _ => cases ez
  | @tup a vs ds hq hr =>
    cases r2 with
    | @tup b ws es hq2 hr2 =>
      cases ez
      refine ⟨a, b, vs, ws, rfl, .inr ⟨seqT s2.bs.le (seqT y2.le hq), seqT s2.bs.le hq2, q3 _ F2 H2 x2 ⟨_, ?_, fin hr hr2⟩⟩⟩
      rw [pairD_len, ← hr.length, ← hr2.length]
      exact (walk_zipT rfl).mono (fun H le => ⟨seqT le (seqT y2.le hq), seqT le hq2⟩) fun _ _ _ _ _ _ y => y
    | _ => cases ez
  | _ => cases d2 <;> cases ez
end

/-! ### defs -/
/-- what the body g does, called: n parameters, k slots in all -/
def runG (g : G) (n k : Nat) : List D → M D := fun ds τ => if ds.length = n then (match g (ds.map .d ++ List.replicate (k - n) .un) τ with
  | .nx _ τ1 => .ok .non τ1
  | .rt d τ1 => .ok d τ1
  | .exc e _ τ1 => .exc e τ1
  | _ => .no) else .no
section
variable {P : Program} {w : World} {K : PySem.W.Frag} {mg : Str → Option Value} {base : Heap}
theorem sta_start {κ : Kc} {T : Option Addr} {F H : Hp} {τ : Tin} {vs : List V} {ds : List D} {N : List Str} (b : Bs T F H τ) (r : RepAll κ T F vs ds) : Sta κ T F F H F H (L2.start N vs) (ds.map .d ++ List.replicate (N.length - ds.length) .un) τ := by
  have noOwn : ∀ (i : Nat) (xs : List D), (ds.map S.d ++ List.replicate (N.length - ds.length) S.un)[i]? ≠ some (.own xs) := fun i xs h => by
    by_cases hi : i < ds.length
    · rw [List.getElem?_append_left (by rw [List.length_map]; exact hi), List.getElem?_map] at h
      cases e : ds[i]? with
      | none => rw [e] at h; cases h
      | some d => rw [e] at h; cases h
    · rw [List.getElem?_append_right (by rw [List.length_map]; omega), List.getElem?_replicate] at h
      split at h <;> cases h
  refine ⟨⟨b, ?_, fun i s h => ?_, fun i j xs ys a h => absurd h (noOwn i xs)⟩, b.refl, fun i xs a h => absurd h (noOwn i xs), Same.refl _⟩
  · unfold L2.start
    rw [List.length_append, List.length_append, List.length_map, List.length_map, List.length_replicate, List.length_replicate, r.length]
  · unfold L2.start
    by_cases hi : i < ds.length
    · rw [List.getElem?_append_left (by rw [List.length_map]; exact hi), List.getElem?_map] at h
      have hd : ds[i]? = some ds[i] := List.getElem?_eq_getElem hi
      rw [hd] at h
      cases h
      obtain ⟨v, hv, rv⟩ := r.get hd
      exact ⟨some v, by rw [List.getElem?_append_left (by rw [List.length_map, r.length]; exact hi), List.getElem?_map, hv]; rfl, v, rfl, rv⟩
    · rw [List.getElem?_append_right (by rw [List.length_map]; omega), List.getElem?_replicate] at h
      split at h
      · rename_i hl
        cases h
        refine ⟨none, ?_, trivial⟩
        rw [List.getElem?_append_right (by rw [List.length_map, r.length]; omega), List.getElem?_replicate, List.length_map, r.length]
        rw [List.length_map] at hl
        rw [if_pos hl]
      · cases h
/-- the wish about exceptions of a def's body -/
abbrev wDef (E : XK) : WX := fun cls d _ H => E cls d H
/-- a def of the text does what its mirror does -/
theorem fn_mk {x : Str} {st : Stmt} {f : Addr} {fd : FuncData} {N ps : List Str} {k n : Nat} {g : G} (F : Fun K x x st f fd) (S : FnScope N ps (defScope st)) (hx : mg x = some (.ref f)) (hb : Binds K fd ps []) (hn : ps.length = n)
    (hbody : ∀ (cdv : Value) (A : Around) (outer : List PySem.Env) (s : Shared) (H : Hp) (E : XK), Room k (A.deeper (envOfC x (defScope st) s.heap.objs.size f cdv)) →
      DSs (cxOf (L2.CX P w) P w K mg base N x (defScope st) f cdv A outer s H E) (wDef E) (defBody st) g) : Fn P w K mg base x (k + 1) n (runG g n N.length) := by
  refine ⟨f, fd, ps, hx, F.kp, hb, F.okX S (fun vs H Q E h => h.1.trans hn.symm) fun cdv A outer s H vs Q E hr ⟨hl, T, Fr, τ, ds, b, r, q⟩ => ⟨_, hbody cdv A outer s H E hr, T, Fr, Fr, H, Fr, _, τ, sta_start b r, ?_⟩⟩
  unfold runG at q
  have hdl : ds.length = n := r.length.symm.trans hl
  rw [if_pos hdl, ← hdl] at q
  cases e : g (ds.map .d ++ List.replicate (N.length - ds.length) .un) τ with
  | nx ρ1 τ1 =>
    rw [e] at q
    exact fun F' H' σ' s' => q .non F' H' s'.ex .non
  | rt d τ1 =>
    rw [e] at q
    exact fun F' H' v x rv => q v F' H' x rv
  | exc c ρ1 τ1 =>
    rw [e] at q
    exact fun F' H' σ' cl s' hm => q F' H' cl s'.ex hm
  | bk ρ1 τ1 => rw [e] at q; exact q.elim
  | ct ρ1 τ1 => rw [e] at q; exact q.elim
  | no => rw [e] at q; exact q.elim
end
end DL
end

section
set_option Elab.async false
set_option linter.all false
set_option maxRecDepth 100000
set_option maxHeartbeats 2000000
/-! DLL: the drawing list, signs, sets of ints sorted, defs that call themselves -/
namespace DL
open PySem PySem.Spec PyProof.Rows L2

theorem hu200 {A : Around} {k : Nat} (hr : Room k A) : A.units + 200 < cLine := by have := hr.un; omega
/-! ### -a -/
def negD : D → Option D
  | .int i => some (.int (-i))
  | _ => none
def dNeg (fa : Env → M D) : Env → M D := fun ρ => M.bind (fa ρ) fun x => M.lift (negD x)
section
variable {X : Cx} {W : WX} {m : Bool} {a e : Expr} {es : List Expr} {fa : Env → M D} {p p2 q2 pos : Pos}
theorem de_neg (ha : DE X W false a fa) : DE X W m (.UnaryOp .USub a pos) (dNeg fa) := impPE (pe_un un_neg ha) fun σ H Q ⟨T, F, ρ, τ, s, q⟩ =>
  tD_mono (tD_of (m := false) s s.bs.refl q) fun x H1 ⟨F1, τ1, d, x1, y1, s1, r1, q1⟩ => by
    cases r1 with
    | int i => exact ⟨i, rfl, q1 _ F1 H1 x1 (repM (.int _))⟩
    | _ => exact q1.elim

/-! ### the drawing list -/
def tinAt (k : Nat) (τ : Tin) : Int := match k with
  | 0 => τ.1
  | 1 => τ.2.1
  | _ => τ.2.2
def tinSet (k : Nat) (z : Int) (τ : Tin) : Tin := match k with
  | 0 => (z, τ.2.1, τ.2.2)
  | 1 => (τ.1, z, τ.2.2)
  | _ => (τ.1, τ.2.1, z)
def tinB : S → Bool
  | .d .tin => true
  | _ => false
def isTin (i : Nat) (ρ : Env) : Bool := match ρ[i]? with
  | some s => tinB s
  | none => false
theorem isTin_of {i : Nat} {ρ : Env} (h : isTin i ρ = true) : ρ[i]? = some (.d .tin) := by
  unfold isTin at h
  cases e : ρ[i]? with
  | none => rw [e] at h; cases h
  | some s =>
    rw [e] at h
    have h : tinB s = true := h
    unfold tinB at h
    split at h
    · rfl
    · cases h
/-- tin[k] -/
def dTin (i k : Nat) : Env → M D := fun ρ τ => if isTin i ρ = true then .ok (.int (tinAt k τ)) τ else .no
theorem de_tin {x : Str} {c : Const} {j : Nat} (i k : Nat) (hk : k < 3) (hc : c = .int (k : Int)) (hN : X.N[i]? = some x := by rfl) (hv : Vis X.env.scope x := by first | exact Or.inl rfl | exact Or.inr (Or.inl rfl) | exact Or.inr (Or.inr rfl)) (hd : (x == ("__debug__" : Str)) = false := by decide)
    (hcd : (x == ("__classdict__" : Str)) = false := by decide) (hs : PlainIx (.Constant c j p2) := by exact fun _ _ => rfl) : DE X W m (.Subscript (.Name x p) (.Constant c j p2) pos) (dTin i k) := by
  subst hc
  refine impPE (pe_ix ix_list (pe_var hN hv hd hcd) pe_int hs) fun σ H Q ⟨T, F, ρ, τ, s, q⟩ => ?_
  unfold dTin at q
  split at q
  · rename_i ht
    obtain ⟨v, hv, y, rfl, r⟩ := s.slot i _ (isTin_of ht)
    cases r with
    | @tin a e =>
      have hH := (s.bs.tn a e).2
      refine ⟨_, hv, a, _, (k : Int), .int (tinAt k τ), rfl, rfl, SqL.of hH, atI_nat ?_, q _ F H s.bs.refl (repM (.int _))⟩
      match k, hk with
      | 0, _ => rfl
      | 1, _ => rfl
      | 2, _ => rfl
  · exact q.elim
/-- the drawing list is changed -/
theorem Sta.tin {κ : Kc} {T : Option Addr} {Fp F0 H0 F H : Hp} {σ : L2.St} {ρ : Env} {τ : Tin} (s : Sta κ T Fp F0 H0 F H σ ρ τ) {a : Addr} (ha : T = some a) (τ' : Tin) : Sta κ T Fp F0 H0 F (upd H a (.lst [.int τ'.1, .int τ'.2.1, .int τ'.2.2])) σ ρ τ' := by
  have hF := (s.sr.bs.tn a ha).1
  have bs : Bs T F (upd H a (.lst [.int τ'.1, .int τ'.2.1, .int τ'.2.2])) τ' := ⟨fun c o q => by
    have : c ≠ a := fun z => by subst z; rw [hF] at q; cases q
    rw [upd_ne this]; exact s.sr.bs.le _ _ q, fun c q => by
      rw [ha] at q
      cases q
      exact ⟨hF, upd_same⟩⟩
  refine ⟨⟨bs, s.sr.len, fun j x h => ?_, s.sr.apart⟩, ⟨fun c o q n => ?_, s.ex.le, bs.le, s.ex.new, bs.tn⟩, s.ow, s.pin⟩
  · obtain ⟨v, hv, q⟩ := s.sr.slot j x h
    refine ⟨v, hv, ?_⟩
    cases x with
    | un => trivial
    | d d => exact q
    | own ds =>
      obtain ⟨b, vs, h1, h2, h3, h4, h5⟩ := q
      have : b ≠ a := fun z => by subst z; exact h4 ha
      exact ⟨b, vs, h1, by rw [upd_ne this]; exact h2, h3, h4, h5⟩
  · have : c ≠ a := fun z => by subst z; exact n ha
    rw [upd_ne this]
    exact s.ex.keep c o q n
def sTin (i k : Nat) (fa : Env → M D) : G := fun ρ τ => bO (fa ρ) ρ (fun d τ1 => if isTin i ρ = true then (match d with
  | .int z => .nx ρ (tinSet k z τ1)
  | _ => .no) else .no) τ
theorem ds_tin {x : Str} {c : Const} {j : Nat} (i k : Nat) (hk : k < 3) (hc : c = .int (k : Int)) (ha : DE X W false e fa) (hN : X.N[i]? = some x := by rfl) (hv : Vis X.env.scope x := by first | exact Or.inl rfl | exact Or.inr (Or.inl rfl) | exact Or.inr (Or.inr rfl)) (hd : (x == ("__debug__" : Str)) = false := by decide)
    (hcd : (x == ("__classdict__" : Str)) = false := by decide)
    (hst : ∀ v, assign (.Subscript (.Name x p) (.Constant c j q2) p2) X.env v = (do
      let ov ← holding [v] (eval (.Name x p) X.env)
      let iv ← holding [v, ov] (eval (.Constant c j q2) X.env)
      standAt p2
      holding [v, ov, iv] (setItem ov iv v)
      release [v, ov, iv] []) := by intro _; rfl)
    (hs : swapsWithSole [.Subscript (.Name x p) (.Constant c j q2) p2] e pos.line X.env = pure false := by rfl) (hw : swappedStores [.Subscript (.Name x p) (.Constant c j q2) p2] e X.env = pure none := by rfl)
    (h1 : (assignEach [.Subscript (.Name x p) (.Constant c j q2) p2] X.env).map (·.2) = [assign (.Subscript (.Name x p) (.Constant c j q2) p2) X.env] := by rfl) :
    DS X W (.Assign [.Subscript (.Name x p) (.Constant c j q2) p2] e pos) (sTin i k fa) := by
  subst hc
  refine impPS (ps_asg ha (pg_sub (pe_var hN hv hd hcd) pe_int set_list hst) hs hw h1) fun D σ H ⟨T, Fp, F0, H0, F, ρ, τ, s, q⟩ => ?_
  refine tD_mono (bD_of (m := false) s q) fun v H1 ⟨F1, τ1, d, x1, s1, r1, q1⟩ => ?_
  split at q1
  · rename_i ht
    obtain ⟨u, hu, y, rfl, r⟩ := s1.sr.slot i _ (isTin_of ht)
    cases r with
    | @tin a e =>
      cases r1 with
      | int z =>
        have hH := (s1.sr.bs.tn a e).2
        refine ⟨_, hu, a, _, (k : Int), k, rfl, rfl, hH, ?_, ?_⟩
        · unfold ixN
          rw [if_pos (by omega), if_pos (by show (k : Int) < ((3 : Nat) : Int); omega)]
          rfl
        · have s2 := s1.tin e (tinSet k z τ1)
          have q1 : ∀ F' H' σ', Sta (kc X) T Fp F0 H0 F' H' σ' ρ (tinSet k z τ1) → D.nx σ' H' := q1
          have e2 : ([V.int τ1.1, V.int τ1.2.1, V.int τ1.2.2].set k (V.int z)) = [.int (tinSet k z τ1).1, .int (tinSet k z τ1).2.1, .int (tinSet k z τ1).2.2] := by
            match k, hk with
            | 0, _ => rfl
            | 1, _ => rfl
            | 2, _ => rfl
          rw [e2]
          exact q1 _ _ _ s2
      | _ => exact q1.elim
  · exact q1.elim

/-! ### sorted(set(..)) of ints -/
def intsOf : List D → Option (List Int)
  | [] => some []
  | .int b :: r => (intsOf r).map (b :: ·)
  | _ :: _ => none
theorem intsOf_eq : ∀ {ds : List D} {bs : List Int}, intsOf ds = some bs → ds = bs.map .int
  | [], bs, h => by cases h; rfl
  | .int b :: r, bs, h => by
    rw [intsOf] at h
    cases e : intsOf r with
    | none => rw [e] at h; cases h
    | some cs => rw [e] at h; cases h; rw [intsOf_eq e]; rfl
  | .non :: _, _, h => by cases h
  | .bl _ :: _, _, h => by cases h
  | .str _ :: _, _, h => by cases h
  | .tup _ :: _, _, h => by cases h
  | .lst _ :: _, _, h => by cases h
  | .scr _ :: _, _, h => by cases h
  | .tin :: _, _, h => by cases h
  | .dct _ :: _, _, h => by cases h
theorem intsOf_map : ∀ bs : List Int, intsOf (bs.map .int) = some bs
  | [] => rfl
  | b :: bs => by rw [List.map_cons, intsOf, intsOf_map bs]; rfl
/-- put in where it belongs, once -/
def insI (x : Int) : List Int → List Int
  | [] => [x]
  | y :: ys => if x < y then x :: y :: ys else if x = y then y :: ys else y :: insI x ys
def sortI (xs : List Int) : List Int := xs.foldr insI []
theorem mem_insI (x z : Int) : ∀ ys : List Int, z ∈ insI x ys ↔ z = x ∨ z ∈ ys
  | [] => by simp [insI]
  | y :: ys => by
    unfold insI
    split
    · simp
    · split
      · rename_i h
        subst h
        simp
      · rw [List.mem_cons, mem_insI x z ys, List.mem_cons]
        constructor
        · rintro (h | h | h)
          · exact .inr (.inl h)
          · exact .inl h
          · exact .inr (.inr h)
        · rintro (h | h | h)
          · exact .inr (.inl h)
          · exact .inl h
          · exact .inr (.inr h)
theorem mem_sortI (z : Int) : ∀ xs : List Int, z ∈ sortI xs ↔ z ∈ xs
  | [] => by simp [sortI]
  | x :: xs => by
    show z ∈ insI x (sortI xs) ↔ _
    rw [mem_insI, mem_sortI z xs, List.mem_cons]
theorem insI_lt (x : Int) : ∀ {ys : List Int}, ys.Pairwise (· < ·) → (insI x ys).Pairwise (· < ·)
  | [], _ => by simp [insI]
  | y :: ys, h => by
    obtain ⟨h1, h2⟩ := List.pairwise_cons.mp h
    unfold insI
    split
    · rename_i hlt
      exact List.pairwise_cons.mpr ⟨fun z hz => (List.mem_cons.mp hz).elim (fun e => by rw [e]; exact hlt) fun hz => Int.lt_trans hlt (h1 z hz), h⟩
    · split
      · exact h
      · rename_i n1 n2
        refine List.pairwise_cons.mpr ⟨fun z hz => ?_, insI_lt x h2⟩
        rcases (mem_insI x z ys).mp hz with e | hz
        · omega
        · exact h1 z hz
theorem sortI_lt : ∀ xs : List Int, (sortI xs).Pairwise (· < ·)
  | [] => .nil
  | x :: xs => insI_lt x (sortI_lt xs)
theorem sorted_one : ∀ {xs ys : List Int}, xs.Pairwise (· < ·) → ys.Pairwise (· < ·) → (∀ z, z ∈ xs ↔ z ∈ ys) → xs = ys
  | [], [], _, _, _ => rfl
  | [], y :: ys, _, _, h => by have := (h y).mpr List.mem_cons_self; simp at this
  | x :: xs, [], _, _, h => by have := (h x).mp List.mem_cons_self; simp at this
  | x :: xs, y :: ys, h1, h2, h => by
    obtain ⟨a1, a2⟩ := List.pairwise_cons.mp h1
    obtain ⟨b1, b2⟩ := List.pairwise_cons.mp h2
    have e : x = y := by
      rcases List.mem_cons.mp ((h x).mp List.mem_cons_self) with e | hx
      · exact e
      · rcases List.mem_cons.mp ((h y).mpr List.mem_cons_self) with e | hy
        · exact e.symm
        · have := a1 y hy; have := b1 x hx; omega
    subst e
    rw [sorted_one a2 b2 fun z => ?_]
    constructor
    · intro hz
      rcases List.mem_cons.mp ((h z).mp (List.mem_cons_of_mem _ hz)) with e | q
      · have := a1 z hz; omega
      · exact q
    · intro hz
      rcases List.mem_cons.mp ((h z).mpr (List.mem_cons_of_mem _ hz)) with e | q
      · have := b1 z hz; omega
      · exact q
def fSortSetT (fa : Env → M D) : Env → M (List D) := fun ρ => M.bind (fa ρ) fun x => match x with
  | .tup xs => (match intsOf xs with
    | some ns => if ns.length < 64 then M.pure ((sortI ns).map .int) else M.no
    | none => M.no)
  | _ => M.no
def rSetTI (K : PySem.W.Frag) (w : World) : List V → Hp → VK → Prop := fun xs H Q => ∃ (p : Addr) (ns : List Int), xs = [.ref p] ∧ SqT K H p (ns.map V.int) ∧ ns.length < 64 ∧
  ∀ a c, H a = none → c ≤ ns.length → Q (.ref a) (upd H a (SetO w a (fun j => decide (j ∈ ns)) c))
theorem cr_setTI (hc : X.calm = true) : CallR X (.type "set") (rSetTI X.K X.w) := by
  intro pins s σ H xs us Q I r ⟨a, ns, ex, hq, hl, q⟩
  subst ex
  obtain ⟨u, rfl, ru⟩ := Vals.one r
  obtain rfl : u = .ref a := ru
  obtain ⟨its, rv, pt, hz⟩ := I.tuple hq
  refine call_set_tupI ns (I.ok.hd hc) (show s.heap.IsTuple a its.toArray from pt) (ints_of_vals rv) (by unfold scanBound; omega) fun h' tk c R hcl kp => ?_
  exact ⟨.ref s.heap.objs.size, _, I.laid (t' := tk) kp (Nat.le_refl _) (setO_new R), rfl, q _ c I.fresh hcl⟩
theorem df_sortSetT (hc : X.calm = true) (hg : Gl X "sorted") (hm : X.mg "sorted" = none) (hg2 : Gl X "set") (hm2 : X.mg "set" = none) (ha : DE X W true e fa)
    (he : starEach [e] X.env = (false, eval e X.env) :: starEach [] X.env := by rfl) (he2 : starEach [.Call (.Name "set" p2) [e] [] q2] X.env = (false, eval (.Call (.Name "set" p2) [e] [] q2) X.env) :: starEach [] X.env := by rfl)
    (hpl : (backTo q2 (starEach [] X.env)).any (·.1) = false := by rfl) (hpl2 : (backTo pos (starEach [] X.env)).any (·.1) = false := by rfl) :
    DF X W (.Call (.Name "sorted" p) [.Call (.Name "set" p2) [e] [] q2] [] pos) (fSortSetT fa) :=
  impPE (pe_callB (cr_sortedSet hc) hg hm (by decide +kernel) (pa_cons (pe_callTy (cr_setTI hc) hg2 hm2 (by decide +kernel) (pa_cons ha pa_nil he) (by decide) (by decide) he hpl) pa_nil he2) (by decide) (by decide) he2 hpl2) fun σ H Q ⟨T, F, ρ, τ, s, q⟩ => by
    refine tD_mono (tD_of (m := true) s s.bs.refl q) fun x H1 ⟨F1, τ1, d, x1, y1, s1, r1, q1⟩ => ?_
    cases d with
    | tup xs =>
      obtain ⟨a, vs, rfl, hq, rv⟩ := RepTop.tup r1
      cases ei : intsOf xs with
      | none =>
        have q1 : wpR ((match intsOf xs with | some ns => if ns.length < 64 then M.pure ((sortI ns).map D.int) else M.no | none => M.no) τ1) _ _ := q1
        rw [ei] at q1
        exact q1.elim
      | some ns =>
        have q1 : wpR ((match intsOf xs with | some ns => if ns.length < 64 then M.pure ((sortI ns).map D.int) else M.no | none => M.no) τ1) _ _ := q1
        rw [ei] at q1
        have q1 : wpR ((if ns.length < 64 then M.pure ((sortI ns).map D.int) else M.no) τ1) (freshP (kc X) T F H Q) (wX X.mg W T F H σ) := q1
        split at q1
        · rename_i hl
          have ev : vs = ns.map V.int := by
            rw [intsOf_eq ei] at rv
            exact rv.ints
          refine ⟨a, ns, rfl, by rw [← ev]; exact seqT s1.bs.le hq, hl, fun b c hb hcl => ⟨b, _, c, rfl, upd_same, by omega, fun ms l h1 h2 h3 hl' => ?_⟩⟩
          have em : ms = sortI ns := sorted_one h1 (sortI_lt ns) fun z => by
            rw [h2 z, mem_sortI]
            simp
          have x2 := s1.bs.aside (o := SetO X.w b (fun j => decide (j ∈ ns)) c) hb
          have x3 := x2.bs.aside (o := .lst (ms.map V.int)) hl'
          have hl1 : H1 l = none := was_free x2 hl'
          refine q1 l _ F1 _ ((x1.trans x2).trans x3) (was_free x1 hl1) (Same.free s1.bs.le hl1) upd_same (T_ne s1.bs hl1) ?_
          rw [em]
          exact repAll_ints _
        · exact q1.elim
    | _ => exact q1.elim
end

/-! ### a def that calls itself -/
section
variable {P : Program} {w : World} {K : PySem.W.Frag} {mg : Str → Option Value} {base : Heap}
theorem fn_zero {x : Str} {st : Stmt} {f : Addr} {fd : FuncData} {ps : List Str} {k n : Nat} (F : Fun K x x st f fd) (hx : mg x = some (.ref f)) (hb : Binds K fd ps []) (hn : ps.length = n) : Fn P w K mg base x k n (fun _ => M.no) :=
  ⟨f, fd, ps, hx, F.kp, hb, ⟨fun vs H Q E h => h.1.trans hn.symm, fun A outer s H args us vs Q E hr e0 hbd r ⟨hl, T, Fr, τ, ds, b, rr, q⟩ => q.elim⟩⟩
theorem fn_up {x : Str} {j k n : Nat} {f : List D → M D} (F : Fn P w K mg base x j n f) (h : j ≤ k) : Fn P w K mg base x k n f := by
  obtain ⟨a, fd, ps, h1, h2, h3, h4⟩ := F
  exact ⟨a, fd, ps, h1, h2, h3, h4.mono h⟩
end
end DL
end

section
set_option Elab.async false
set_option linter.all false
set_option maxRecDepth 100000
set_option maxHeartbeats 2000000
/-! DLM: constants of the text, lists of ranges, names for comprehensions -/
namespace DL
open PySem PySem.Spec PyProof.Rows L2
/-- a constant of the text is d -/
def GlobIs (P : Program) (w : World) (K : PySem.W.Frag) (mg : Str → Option Value) (x : Str) (d : D) : Prop := ∃ v u, mg x = some u ∧ RelV v u ∧ ∀ T F, Rep ⟨P, w, K⟩ T F v d
theorem globIs_int {P : Program} {w : World} {K : PySem.W.Frag} {mg : Str → Option Value} {x : Str} {i : Int} {t : Tok} (h : mg x = some (.int i t)) : GlobIs P w K mg x (.int i) := ⟨.int i, _, h, ⟨t, rfl⟩, fun _ _ => .int i⟩
section
variable {X : Cx} {W : WX} {m : Bool} {e e2 : Expr} {fa fb : Env → M D} {x : Str} {d : D} {p p2 q2 pos : Pos}
theorem de_globC (h : GlobIs X.prog X.w X.K X.mg x d) (hg : Gl X x) (hd : (x == ("__debug__" : Str)) = false := by decide) : DE X W m (.Name x pos) (dC d) := by
  obtain ⟨v, u, h1, h2, h3⟩ := h
  exact de_glob hg h1 h2 h3 hd
/-! ### list(range(..)) -/
def rgD (X : Cx) (W : WX) (f : Env → M (Int × Int)) : L2.St → Hp → (Int → Int → Hp → Prop) → Prop := fun σ H Q => ∃ T F ρ τ, SR (kc X) T F H σ ρ τ ∧
  wpR (f ρ τ) (fun b τ' => ∀ F' H', Ext T F H F' H' τ' → Q b.1 b.2 H') (wX X.mg W T F H σ)
abbrev DR (X : Cx) (W : WX) (e : Expr) (f : Env → M (Int × Int)) : Prop := PRg X e (rgD X W f)
def rg1 (fa : Env → M D) : Env → M (Int × Int) := fun ρ => M.bind (fa ρ) fun x => M.bind (toI x) fun i => M.pure (0, i)
def rg2 (fa fb : Env → M D) : Env → M (Int × Int) := fun ρ => M.bind (fa ρ) fun x => M.bind (fb ρ) fun y => M.bind (toI x) fun i => M.bind (toI y) fun j => M.pure (i, j)
theorem impPRg {t t' : L2.St → Hp → (Int → Int → Hp → Prop) → Prop} (h : PRg X e t) (i : ∀ σ H Q, t' σ H Q → t σ H Q) : PRg X e t' := fun pins s σ H Q I q => h pins s σ H Q I (i σ H Q q)
theorem drg1 (hg : Gl X "range") (hm : X.mg "range" = none) (ha : DE X W false e fa) (na : starEach [e] X.env = (false, eval e X.env) :: starEach [] X.env := by rfl) : DR X W (.Call (.Name "range" p) [e] [] pos) (rg1 fa) :=
  impPRg (prg_1 hg hm ha na) fun σ H Q ⟨T, F, ρ, τ, s, q⟩ => tD_mono (tD_of (m := false) s s.bs.refl q) fun x H1 ⟨F1, τ1, d, x1, y1, s1, r1, q1⟩ => by
    cases r1 with
    | int i => exact ⟨i, rfl, q1 F1 H1 x1⟩
    | _ => exact q1.elim
theorem drg2 (hg : Gl X "range") (hm : X.mg "range" = none) (ha : DE X W false e fa) (hb : DE X W false e2 fb) (na : starEach [e, e2] X.env = (false, eval e X.env) :: starEach [e2] X.env := by rfl)
    (nb : starEach [e2] X.env = (false, eval e2 X.env) :: starEach [] X.env := by rfl) (hp : (backTo pos (starEach [e2] X.env)).any (·.1) = false := by rfl) : DR X W (.Call (.Name "range" p) [e, e2] [] pos) (rg2 fa fb) :=
  impPRg (prg_2 hg hm ha hb na nb (hp := hp)) fun σ H Q ⟨T, F, ρ, τ, s, q⟩ => tD_mono (tD_of (m := false) s s.bs.refl q) fun x H1 ⟨F1, τ1, d, x1, y1, s1, r1, q1⟩ => tD_mono (tD_of (m := false) s1 x1 q1) fun y H2 ⟨F2, τ2, d2, x2, y2, s2, r2, q2⟩ => by
    cases r1 with
    | int i =>
      cases r2 with
      | int j => exact ⟨i, j, rfl, rfl, q2 F2 H2 x2⟩
      | _ => exact q2.elim
    | _ => exact q2.elim
def okRg (a b : Int) : Bool := inRng a && inRng b && decide ((b - a).toNat ≤ 2 ^ 24)
def fRange (f : Env → M (Int × Int)) : Env → M (List D) := fun ρ => M.bind (f ρ) fun b => if okRg b.1 b.2 = true then M.pure (rangeD b.1 (b.2 - b.1).toNat) else M.no
theorem rangeD_rep {κ : Kc} {T : Option Addr} {F : Hp} (a b : Int) : RepAll κ T F (rgV a b) (rangeD a (b - a).toNat) := by
  unfold rgV rangeD
  generalize List.range (b - a).toNat = l
  induction l with
  | nil => exact .nil
  | cons x l ih => exact .cons (.int _) ih
theorem df_rangeOf {f : Env → M (Int × Int)} (hc : X.calm = true) (hg : Gl X "list") (hm : X.mg "list" = none) (he : DR X W e f) (na : starEach [e] X.env = (false, eval e X.env) :: starEach [] X.env := by rfl) :
    DF X W (.Call (.Name "list" p) [e] [] pos) (fRange f) := impPE (pe_listRg hc hg hm he na) fun σ H Q ⟨T, F, ρ, τ, s, q⟩ => by
  refine ⟨T, F, ρ, τ, s, wpR_mono (wpR_bind q) (fun b τ1 q1 F1 H1 x1 => ?_) fun _ _ z => z⟩
  have q1 : wpR ((if okRg b.1 b.2 = true then M.pure (rangeD b.1 (b.2 - b.1).toNat) else M.no) τ1) (freshP (kc X) T F H Q) (wX X.mg W T F H σ) := q1
  split at q1
  · rename_i hk
    unfold okRg inRng at hk
    simp only [Bool.and_eq_true, decide_eq_true_eq] at hk
    refine ⟨⟨hk.1.1.1, hk.1.1.2, hk.1.2.1, hk.1.2.2, hk.2⟩, fun l hl => ?_⟩
    exact q1 l _ F1 _ (x1.trans (x1.bs.aside hl)) (was_free x1 hl) (Same.free x1.sub hl) upd_same (T_ne x1.bs hl) (rangeD_rep _ _)
  · exact q1.elim
/-! ### name = [..] on one line -/
section
variable {tg iter elt : Expr} {ifs : List Expr} {fi : Env → M (List D)} {g : D → Env → Option Env} {t : Env → M Bool} {f : Env → M D} {is : List Nat} {own : List (Str × Nat)} {scope : Scope} {y : Str} {py spos : Pos}
theorem ds_setLc (i : Nat) (hN : X.N.Nodup) (hc : X.calm = true) (hi : DI X W tg iter fi) (ok : BlkOk X.N X.env.scope scope own) (his : ∀ i ∈ is, i ∈ own.map (·.2))
    (hg : ∀ (s : Shared) (H : Hp) (C : Addr) (cl : List (Str × Addr)) (fp : List Addr), DG (X.blk s H scope (compEnvC scope cl C X.env) fp) is tg g)
    (ht : ∀ (s : Shared) (H : Hp) (C : Addr) (cl : List (Str × Addr)) (fp : List Addr), DTs (X.blk s H scope (compEnvC scope cl C X.env) fp) ifs t)
    (he : ∀ (s : Shared) (H : Hp) (C : Addr) (cl : List (Str × Addr)) (fp : List Addr), DE (X.blk s H scope (compEnvC scope cl C X.env) fp) noX false elt f)
    (hy : X.N[i]? = some y := by rfl) (hyl : X.env.scope.names.lookup y = some .local := by rfl)
    (hsw : swapsWith (.ListComp elt [⟨tg, iter, ifs, 0⟩] scope pos) (some (.Name y py)) spos.line X.env = pure true := by exact sw_true rfl rfl rfl (by decide +kernel)) (hs : ∀ x, foldedSetIterable iter X.env x = pure x := by intro _; rfl) :
    DS X W (.Assign [.Name y py] (.ListComp elt [⟨tg, iter, ifs, 0⟩] scope pos) spos) (sSetF i (fComp fi (own.map (·.2)) g t f)) := impPS (ps_setLc hc hN hy hyl hsw hi ok hg ht he hs) fun D σ H ⟨T, Fp, F0, H0, F, ρ, τ, s, q⟩ => by
  refine tLc_of (W := W) his (tF_mono (bF_of s q) fun v H1 ⟨F1, τ1, a, vs, ds, ex, x1, s1, h0, h1, h2, h3, r1, q1⟩ => ?_)
  subst ex
  obtain ⟨x2, le⟩ := x1.take h0 h1 h2 h3
  exact q1 _ H1 _ ((s.ext x2).set i (.lst upd_same (r1.mono le)))
end
end
/-! ### in a def's own body -/
theorem tkB (P : Program) (w : World) (K : PySem.W.Frag) (mg : Str → Option Value) (base : Heap) (N : List Str) (x : Str) (sc : Scope) (f : Addr) (cdv : Value) (A : Around) (outer : List PySem.Env) (s : Shared) (H : Hp) (E : XK) :
    L2.Takes (cxOf (L2.CX P w) P w K mg base N x sc f cdv A outer s H E) (wDef E) := takes_of rfl rfl rfl rfl
theorem hpB (P : Program) (w : World) (K : PySem.W.Frag) (mg : Str → Option Value) (base : Heap) (N : List Str) (x : Str) (sc : Scope) (f : Addr) (cdv : Value) (A : Around) (outer : List PySem.Env) (s : Shared) (H : Hp) (E : XK) :
    PassesOwn (model P w) (cxOf (L2.CX P w) P w K mg base N x sc f cdv A outer s H E).A (cxOf (L2.CX P w) P w K mg base N x sc f cdv A outer s H E).env (cxOf (L2.CX P w) P w K mg base N x sc f cdv A outer s H E).xe := passes_of rfl
end DL
end

section
set_option Elab.async false
set_option linter.all false
set_option maxRecDepth 100000
set_option maxHeartbeats 4000000
/-! DLN: sorted(..) of lists of data -/
namespace DL
open PySem PySem.Spec PyProof.Rows L2
def keyP (p : PyData) : List (Int ⊕ List Nat) := PySem.W.keyToks p
def leP {α : Type} (k : α → PyData) : α → α → Bool := PySem.W.sortLe (PyProof.Rows.listOrd PyProof.Rows.itemOrd) false fun z => PySem.W.keyToks (k z)
def allAlike (ps : List PyData) : Bool := ps.all fun p => ps.all fun q => PySem.W.alike p q
def isNTup : PyData → Bool
  | .tuple (_ :: _) => true
  | _ => false
def isPl : PyData → Bool
  | .tuple _ => false
  | .none => false
  | _ => true
def okSort (ps : List PyData) : Bool := allAlike ps && (ps.all isNTup || ps.all isPl) && ps.all fun p => decide (p.depth ≤ deepest)
theorem okSort_of {ps : List PyData} (h : okSort ps = true) : PySem.W.AllAlike ps ∧ PySem.W.Sortable ps ∧ ∀ p ∈ ps, p.depth ≤ 150 := by
  unfold okSort allAlike at h
  simp only [Bool.and_eq_true, Bool.or_eq_true, List.all_eq_true, decide_eq_true_eq] at h
  obtain ⟨⟨h1, h2⟩, h3⟩ := h
  refine ⟨fun d hd d' hd' => h1 d hd d' hd', ?_, fun p hp => h3 p hp⟩
  rcases h2 with h2 | h2
  · refine .inl fun d hd => ?_
    have q := h2 d hd
    cases d with
    | tuple xs =>
      cases xs with
      | nil => cases q
      | cons x r => exact ⟨x, r, rfl⟩
    | _ => cases q
  · refine .inr fun d hd => ?_
    have q := h2 d hd
    cases d with
    | tuple xs => cases q
    | none => cases q
    | _ => exact ⟨fun e => PyData.noConfusion e, fun xs e => PyData.noConfusion e⟩
def rSortDt (K : PySem.W.Frag) : List V → Hp → VK → Prop := fun vs H Q => ∃ (a : Addr) (zs : List (V × PyData)), vs = [V.ref a] ∧ SqL K H a (zs.map (·.1)) ∧ (∀ z ∈ zs, Dp K H z.1 z.2) ∧ okSort (zs.map (·.2)) = true ∧
  ∀ p, H p = none → Q (.ref p) (upd H p (.lst ((zs.mergeSort (leP (·.2))).map (·.1))))
theorem each_of_vals : ∀ {zs : List (V × PyData)} {us : List Value}, Vals (zs.map (·.1)) us → PySem.W.EachIs (fun u z => RelV z.1 u) us zs
  | [], _, h => by cases h; exact .nil
  | z :: zs, _, h => by cases h with | cons r t => exact .cons r (each_of_vals t)
theorem vals_of_each : ∀ {zs : List (V × PyData)} {us : List Value}, PySem.W.EachIs (fun u z => RelV z.1 u) us zs → Vals (zs.map (·.1)) us
  | _, _, .nil => .nil
  | _, _, .cons r t => .cons r (vals_of_each t)
section
variable {X : Cx}
theorem each_dp {pins : List (Addr × Obj)} {σ : L2.St} {H : Hp} {s : Shared} (I : Inv X pins σ H s) {h' : Heap} (k : ∀ b o, s.heap.get? b = some o → h'.get? b = some o) : ∀ {zs : List (V × PyData)} {us : List Value}, PySem.W.EachIs (fun u z => RelV z.1 u) us zs → (∀ z ∈ zs, Dp X.K H z.1 z.2) →
    PySem.W.EachIs (fun u z => ∃ as, Reads h' u z.2 as) us zs
  | _, _, .nil, _ => .nil
  | _, _, .cons r t, h => .cons (by
      obtain ⟨as, q⟩ := Dp.reads I _ _ _ (h _ (List.mem_cons_self ..)) r
      exact ⟨as, Reads.keeps k q⟩) (each_dp I k t fun z hz => h z (List.mem_cons_of_mem _ hz))
theorem each_snd {α β γ : Type} {R : α → γ → Prop} {f : β → γ} : ∀ {us : List α} {zs : List β}, PySem.W.EachIs (fun u z => R u (f z)) us zs → PySem.W.EachIs R us (zs.map f)
  | _, _, .nil => .nil
  | _, _, .cons r t => .cons r (each_snd t)
theorem each_mem {α β : Type} {R S : α → β → Prop} : ∀ {us : List α} {zs : List β}, PySem.W.EachIs R us zs → (∀ u z, z ∈ zs → R u z → S u z) → PySem.W.EachIs S us zs
  | _, _, .nil, _ => .nil
  | _, _, .cons r t, h => .cons (h _ _ (List.mem_cons_self ..) r) (each_mem t fun u z hz => h u z (List.mem_cons_of_mem _ hz))
theorem cr_sortDt (hu : X.A.units + 200 < cLine) : CallR X (.builtin "sorted") (rSortDt X.K) := by
  intro pins s σ H vs us Q I r h
  obtain ⟨a, zs, rfl, hs, hx, hk, q⟩ := h
  obtain ⟨its, rv, hl, hz⟩ := I.list hs
  rw [Vals.ref1 r]
  obtain ⟨k1, k2, k3⟩ := okSort_of hk
  have e0 := each_of_vals rv
  have e1 := each_dp I (fun b o e => PySem.W.sorting_copy_old (vs := its) e) e0 hx
  have S : PySem.W.SortsAt X.prog X.w X.A.in1.in1 { s with heap := PySem.W.sortingHeap (PySem.W.copyHeap s.heap its) (s.heap.objs.size + 1) its } _ its :=
    PySem.W.SortsAt.data (each_snd (R := fun u d => ∃ as, Reads _ u d as) (f := fun z : V × PyData => z.2) e1) k1 k2 fun d hd => by
      have := k3 d hd
      show X.A.units + 1 + 1 + d.depth < cLine
      omega
  refine PySem.W.sorted_vals hl.isList S (by rw [← rv.length]; exact hz) ?_
  have e2 := PySem.W.sortVals_each (rev := false) (fun z : V × PyData => PySem.W.keyToks z.2) e0 (κ := PySem.W.dataKind (PySem.W.sortingHeap (PySem.W.copyHeap s.heap its) (s.heap.objs.size + 1) its) (zs.map (·.2))) (each_mem e1 fun u z hz ⟨as, q⟩ => PySem.W.dataKind_some k1 (List.mem_map.mpr ⟨z, hz, rfl⟩) q)
  obtain ⟨ep, he'⟩ := PyProof.Rows.sortedAll_at s.heap its (PySem.W.sortVals (PySem.W.dataKind (PySem.W.sortingHeap (PySem.W.copyHeap s.heap its) (s.heap.objs.size + 1) its) (zs.map (·.2))) false its its).toArray
  have hlen : ((zs.mergeSort (leP (·.2))).map (·.1)).length ≤ sizeLine := by
    rw [List.length_map, (List.mergeSort_perm _ _).length_eq]
    rw [List.length_map] at hz
    exact hz
  exact ⟨.ref _, upd H (s.heap.objs.size + 1) (.lst ((zs.mergeSort (leP (·.2))).map (·.1))), I.laid (t' := s.toks) (fun _ _ => PyProof.Rows.sortedAll_old) (Nat.le_succ _) ⟨hlen, _, ep, vals_of_each e2, he'⟩, rfl, q _ (I.hok.fresh (Nat.le_succ _))⟩
end
/-! ### the mirror -/
def pD (d : D) : PyData := (toP d).getD .none
def sortD (ds : List D) : List D := ds.mergeSort (leP pD)
def sortL (ds : List D) : M (List D) := match toPs ds with
  | some ps => if okSort ps = true then M.pure (sortD ds) else M.no
  | none => M.no
def fSort (fa : Env → M D) : Env → M (List D) := fun ρ => M.bind (fa ρ) fun x => match x with
  | .lst ds => sortL ds
  | _ => M.no
theorem toPs_map : ∀ {ds : List D} {ps : List PyData}, toPs ds = some ps → ps = ds.map pD ∧ ∀ d ∈ ds, toP d = some (pD d)
  | [], _, h => by cases h; exact ⟨rfl, by simp⟩
  | d :: ds, ps, h => by
    rw [toPs] at h
    cases e : toP d with
    | none => rw [e] at h; cases h
    | some p =>
      cases e2 : toPs ds with
      | none => rw [e, e2] at h; cases h
      | some qs =>
        rw [e, e2] at h
        cases h
        obtain ⟨r1, r2⟩ := toPs_map e2
        have ep : pD d = p := by unfold pD; rw [e]; rfl
        refine ⟨by rw [List.map_cons, ep, ← r1], fun x hx => ?_⟩
        rcases List.mem_cons.mp hx with rfl | hx
        · rw [e, ep]
        · exact r2 x hx
theorem sort_snd {α β : Type} (f : α → β) (k : β → PyData) (zs : List α) : (zs.mergeSort (leP fun z => k (f z))).map f = (zs.map f).mergeSort (leP k) := PySem.W.sort_maps f fun _ _ _ _ => rfl
theorem repAll_zip {κ : Kc} {T : Option Addr} {F : Hp} : ∀ {vs : List V} {ds : List D}, RepAll κ T F vs ds → ∀ z ∈ vs.zip ds, Rep κ T F z.1 z.2
  | _, _, .nil, _, h => by simp at h
  | _, _, .cons r t, z, h => by
    rw [List.zip_cons_cons] at h
    rcases List.mem_cons.mp h with rfl | h
    · exact r
    · exact repAll_zip t z h
theorem repAll_of_zip {κ : Kc} {T : Option Addr} {F : Hp} : ∀ {zs : List (V × D)}, (∀ z ∈ zs, Rep κ T F z.1 z.2) → RepAll κ T F (zs.map (·.1)) (zs.map (·.2))
  | [], _ => .nil
  | z :: zs, h => .cons (h z (List.mem_cons_self ..)) (repAll_of_zip fun y hy => h y (List.mem_cons_of_mem _ hy))
section
variable {X : Cx} {W : WX} {e : Expr} {fa : Env → M D} {p pos : Pos}
theorem df_sort (hu : X.A.units + 200 < cLine) (hg : Gl X "sorted") (hm : X.mg "sorted" = none) (ha : DE X W true e fa)
    (he : starEach [e] X.env = (false, eval e X.env) :: starEach [] X.env := by rfl) (hpl : (backTo pos (starEach [] X.env)).any (·.1) = false := by rfl) : DF X W (.Call (.Name "sorted" p) [e] [] pos) (fSort fa) :=
  impPE (pe_callB (cr_sortDt hu) hg hm (by decide +kernel) (pa_cons ha pa_nil he) (by decide) (by decide) he hpl) fun σ H Q ⟨T, F, ρ, τ, s, q⟩ => by
    refine tD_mono (tD_of (m := true) s s.bs.refl q) fun x H1 ⟨F1, τ1, d, x1, y1, s1, r1, q1⟩ => ?_
    cases d with
    | lst ds =>
      obtain ⟨a, vs, rfl, hq, rv⟩ := RepTop.lst r1 s1.bs.le
      have q1 : wpR (sortL ds τ1) (freshP (kc X) T F H Q) (wX X.mg W T F H σ) := q1
      unfold sortL at q1
      cases e1 : toPs ds with
      | none => rw [e1] at q1; exact q1.elim
      | some ps =>
        rw [e1] at q1
        have q1 : wpR ((if okSort ps = true then M.pure (sortD ds) else M.no) τ1) (freshP (kc X) T F H Q) (wX X.mg W T F H σ) := q1
        split at q1
        · rename_i hk
          obtain ⟨m1, m2⟩ := toPs_map e1
          have hl := rv.length
          have z1 : (vs.zip ds).map (·.1) = vs := List.map_fst_zip (by omega)
          have z2 : (vs.zip ds).map (·.2) = ds := List.map_snd_zip (by omega)
          refine ⟨a, (vs.zip ds).map fun z => (z.1, pD z.2), rfl, ?_, ?_, ?_, fun l hl => ?_⟩
          · rw [List.map_map]
            show SqL X.K H1 a ((vs.zip ds).map (·.1))
            rw [z1]
            exact SqL.of hq
          · intro z hz
            obtain ⟨y, hy, rfl⟩ := List.mem_map.mp hz
            exact Rep.dp ((repAll_zip rv y hy).mono s1.bs.le) (m2 _ (List.of_mem_zip hy).2)
          · rw [List.map_map]
            show okSort ((vs.zip ds).map fun z => pD z.2) = true
            have : ((vs.zip ds).map fun z => pD z.2) = ps := by
              have q := congrArg (List.map pD) z2
              rw [List.map_map] at q
              rw [m1]
              exact q
            rw [this]
            exact hk
          · have x3 := s1.bs.aside (o := .lst (((vs.zip ds).map fun z => (z.1, pD z.2)).mergeSort (leP (·.2)) |>.map (·.1))) hl
            refine q1 l _ F1 _ (x1.trans x3) (was_free x1 hl) (Same.free s1.bs.le hl) upd_same (T_ne s1.bs hl) ?_
            have k1 : (((vs.zip ds).map fun z => (z.1, pD z.2)).mergeSort (leP (·.2))).map (·.1) = ((vs.zip ds).mergeSort (leP fun z => pD z.2)).map (·.1) := by
              rw [← sort_snd (fun z : V × D => (z.1, pD z.2)) (fun y : V × PyData => y.2), List.map_map]
              rfl
            have k2 : sortD ds = ((vs.zip ds).mergeSort (leP fun z => pD z.2)).map (·.2) := by
              unfold sortD
              rw [sort_snd (fun z : V × D => z.2) pD, z2]
            rw [k1, k2]
            exact repAll_of_zip fun z hz => repAll_zip rv z ((List.mergeSort_perm _ _).mem_iff.mp hz)
        · exact q1.elim
    | _ => exact q1.elim
end
end DL
end

section
set_option Elab.async false
set_option linter.all false
set_option maxRecDepth 100000
set_option maxHeartbeats 4000000
/-! DLO: the law's own def, and the end of a row -/
namespace DL
open PySem PySem.Spec PyProof.Rows L2
/-- the law's script: its integers, what the law needs of them, the promise True -/
def spL (K : PySem.W.Frag) (good : List Int → Prop) : Sp := fun vs H Q E => ∃ (a : Addr) (ns : List Int), vs = [.ref a] ∧ Only H ∧ SqL K H a (ns.map V.int) ∧ good ns ∧ ∀ H', Q (.bl true) H'
def env0 (n : Nat) (ns : List Int) : Env := [D.scr ns].map .d ++ List.replicate (n - 1) .un
def env1 (n : Nat) (ns : List Int) : Env := (env0 n ns).set 1 (.d .tin)
/-- tin = f; then g ends with True -/
def lawGood (f : Env → M D) (g : G) (n : Nat) (ns : List Int) : Prop := ∃ (x y z : Int) (τ0 τ1 : Tin), f (env0 n ns) (0, 0, 0) = .ok (.lst [.int x, .int y, .int z]) τ0 ∧ g (env1 n ns) (x, y, z) = .rt (.bl true) τ1
section
variable {P : Program} {w : World} {K : PySem.W.Frag} {mg : Str → Option Value} {base : Heap}
theorem law_mk {st : Stmt} {fa : Addr} {fd : FuncData} {N : List Str} {k : Nat} {f : Env → M D} {g : G} {e : Expr} {rest : List Stmt} {p pos : Pos} (F : Fun K "law" "law" st fa fd) (S : FnScope N ["script"] (defScope st))
    (hst : defBody st = .Assign [.Name "tin" p] e pos :: rest) (hi : N[1]? = some ("tin" : Str))
    (hx : ∀ cdv A outer s H E, Loc (cxOf (L2.CX P w) P w K mg base N "law" (defScope st) fa cdv A outer s H E).env.scope "tin")
    (hs : ∀ cdv A outer s H E, swapsWith e (some (.Name "tin" p)) pos.line (cxOf (L2.CX P w) P w K mg base N "law" (defScope st) fa cdv A outer s H E).env = pure false)
    (hf : ∀ cdv A outer s H E, (cxOf (L2.CX P w) P w K mg base N "law" (defScope st) fa cdv A outer s H E).fn "tin" = true ∨ (cxOf (L2.CX P w) P w K mg base N "law" (defScope st) fa cdv A outer s H E).env.scope.names.lookup ("tin" : Str) = some .local)
    (hbody : ∀ (cdv : Value) (A : Around) (outer : List PySem.Env) (s : Shared) (H : Hp) (E : XK), Room k (A.deeper (envOfC "law" (defScope st) s.heap.objs.size fa cdv)) →
      DE (cxOf (L2.CX P w) P w K mg base N "law" (defScope st) fa cdv A outer s H E) (wDef E) false e f ∧
      DSs (cxOf (L2.CX P w) P w K mg base N "law" (defScope st) fa cdv A outer s H E) (wDef E) rest g) :
    FnOk P w K mg base (L2.CX P w) (k + 1) fa fd ["script"] (spL K (lawGood f g N.length)) := by
  refine F.okX S (fun vs H Q E h => ?_) fun cdv A outer s H vs Q E hr ⟨a, ns, ev, hO, hS, ⟨x, y, z, τ0, τ1, e1, e2⟩, q⟩ => ?_
  · obtain ⟨a, ns, rfl, _⟩ := h
    rfl
  · subst ev
    obtain ⟨b1, b2⟩ := hbody cdv A outer s H E hr
    refine ⟨tSeq _ _, by rw [hst]; exact pss_cons (ps_set S.nd hi (hx cdv A outer s H E) b1 (hs cdv A outer s H E) (hf cdv A outer s H E)) b2, ?_⟩
    have r0 : RepAll ⟨P, w, K⟩ none H [.ref a] [.scr ns] := .cons (.scr hS) .nil
    have b0 : Bs none H H (0, 0, 0) := ⟨Same.refl _, fun _ h => by cases h⟩
    have s0 := sta_start (N := N) b0 r0
    refine ⟨none, H, env0 N.length ns, (0, 0, 0), s0.sr, ?_⟩
    show wpR (f (env0 N.length ns) (0, 0, 0)) _ _
    rw [e1]
    intro v F1 H1 x1 rv
    have rv : Rep ⟨P, w, K⟩ none F1 v (.lst [.int x, .int y, .int z]) := rv
    cases rv with
    | @lst c us _ hc ru =>
      have eu : us = [V.int x, V.int y, V.int z] := RepAll.ints (ns := [x, y, z]) ru
      subst eu
      have hn : H c = none := by
        rcases x1.new c _ hc with h | h
        · rcases hO c with h2 | ⟨o, xs, h2⟩
          · exact h2
          · rw [h] at h2
            cases h2
        · exact h
      have b2 : Bs (some c) H H1 (x, y, z) := ⟨fun b o h => x1.keep b o h (by intro z; cases z), fun b h => by
        cases h
        exact ⟨hn, x1.sub _ _ hc⟩⟩
      have r2 : RepAll ⟨P, w, K⟩ (some c) H [.ref a] [.scr ns] := .cons (.scr hS) .nil
      have s2 := (sta_start (N := N) b2 r2).set 1 (v := .ref c) (d := .tin) (.tin rfl)
      refine ⟨some c, H, H, H1, H, _, (x, y, z), s2, ?_⟩
      show wpO _ _ _ _ _ _ _ _ (g (env1 N.length ns) (x, y, z))
      rw [e2]
      intro F' H' v x3 rv3
      have rv3 : Rep ⟨P, w, K⟩ (some c) F' v (.bl true) := rv3
      cases rv3
      exact q H'
end
end DL
namespace DL
open PySem PySem.Spec PyProof.Rows L2
/-- walk_of, with what is known of the loose names and the script's bits -/
theorem walk_ofX {l : PySem.W.OpenLaw} {n k : Nat} {q : Program} {loose : List Str} {XP : (Str → Option Value) → Heap → Prop} {YP : World → Heap → Prop} {d : DefRec} {K : Params → PySem.W.Frag} {good : List Int → Prop}
    (hn : l.most = some n) (hn2 : n ≤ sizeLine) (hdf : d.params.defaults = []) (hr : Room k callerA)
    (hY : ∀ (w : World) (h : Heap), YP w h → (K w.params).In h)
    (F : ∀ (w : World) (mg : Str → Option Value) (fa : Addr) (h : Heap), (K w.params).In h → h.Ns mainGlobals mg → XP mg h → mg d.name = some (.ref fa) →
      ∃ fd : FuncData, (∀ (s : Shared) (u : Value), BindsTo s fd ⟨[u], []⟩ [("script", u)]) ∧
        ∀ base : Heap, (K w.params).In base → base.Ns mainGlobals mg → FnOk l.prog w (K w.params) mg base (L2.CX l.prog w) k fa fd ["script"] (spL (K w.params) good))
    (hsp : ∀ ns : List Int, ns.length ≤ n → (∀ i ∈ ns, Builtin.Int.intBits i ≤ 1048576) → good ns) :
    PySem.W.WalkO q loose XP YP l.row.toRowW d [] (fun f vs => PySem.call f vs) := by
  refine Att.attach_callB hn hdf fun w s₀ s₁ mg mb fa o pm cd doc a vs ns G Y ho hd hcd hmg hobj hints hlen hbits hg => ?_
  have KX := hY w _ Y
  obtain ⟨fd, hb, hF⟩ := F w mg fa _ KX G.T.g G.X hmg
  refine law_call KX G.T.g G.T.b G.T.builtins G.T.nolimit hg hobj hints (Nat.le_trans hlen hn2) hr hF hb (fun H hO hS => ⟨a, ns, rfl, hO, hS, hsp ns hlen hbits, fun _ => rfl⟩) fun H e s' => ?_
  rintro ⟨a, B, H', cls, d, e1, e2, e3, e4, e5, e6, e7, e8⟩
  exact e8
end DL
namespace DL
open PySem PySem.Spec PyProof.Rows L2
theorem globIs_loose {P : Program} {w : World} {K : PySem.W.Frag} {mg : Str → Option Value} {h : Heap} {p : Program} {lv : List (Str × PySem.W.WData)} {x : Str} {i : Int} (X : PySem.W.XL p lv mg h) (hx : (x, PySem.W.WData.int i) ∈ lv) : GlobIs P w K mg x (.int i) := by
  obtain ⟨v, h1, h2⟩ := X.2.val _ hx
  cases h2
  exact globIs_int h1
end DL
end

section
set_option Elab.async false
set_option linter.all false
set_option maxRecDepth 100000
set_option maxHeartbeats 4000000
/-! DP: mirrors on data of known kinds -/
namespace DL
open PySem PySem.Spec PyProof.Rows L2
/-- comparable data, at most n deep -/
def Oks (n : Nat) (d : D) : Prop := toP d = some (pD d) ∧ (pD d).canLay0 = true ∧ (pD d).depth ≤ n
theorem Oks.mono {m n : Nat} {d : D} (h : Oks m d) (k : m ≤ n) : Oks n d := ⟨h.1, h.2.1, Nat.le_trans h.2.2 k⟩
theorem oks_int (n : Nat) (i : Int) : Oks n (.int i) := ⟨rfl, rfl, Nat.zero_le _⟩
theorem oks_bl (n : Nat) (i : Bool) : Oks n (.bl i) := ⟨rfl, rfl, Nat.zero_le _⟩
theorem oks_non (n : Nat) : Oks n .non := ⟨rfl, rfl, Nat.zero_le _⟩
theorem oksAll {n : Nat} : ∀ {xs : List D}, (∀ x ∈ xs, Oks n x) → toPs xs = some (xs.map pD) ∧ PyData.canLayAll0 (xs.map pD) = true ∧ PyData.depthAll (xs.map pD) ≤ n
  | [], _ => ⟨rfl, rfl, Nat.zero_le _⟩
  | x :: xs, h => by
    obtain ⟨a1, a2, a3⟩ := h x List.mem_cons_self
    obtain ⟨b1, b2, b3⟩ := oksAll fun y hy => h y (List.mem_cons_of_mem _ hy)
    refine ⟨?_, ?_, ?_⟩
    · rw [toPs, a1, b1]; rfl
    · rw [List.map_cons, PyData.canLayAll0, a2, b2]; rfl
    · rw [List.map_cons, PyData.depthAll]; omega
theorem pD_tup {n : Nat} {xs : List D} (h : ∀ x ∈ xs, Oks n x) : pD (.tup xs) = .tuple (xs.map pD) := by
  unfold pD
  rw [toP, (oksAll h).1]; rfl
theorem pD_lst {n : Nat} {xs : List D} (h : ∀ x ∈ xs, Oks n x) : pD (.lst xs) = .list (xs.map pD) := by
  unfold pD
  rw [toP, (oksAll h).1]; rfl
theorem oks_tup {n : Nat} {xs : List D} (h : ∀ x ∈ xs, Oks n x) : Oks (n + 1) (.tup xs) := by
  obtain ⟨b1, b2, b3⟩ := oksAll h
  unfold Oks
  rw [pD_tup h]
  refine ⟨by rw [toP, b1]; rfl, by rw [PyData.canLay0]; exact b2, by rw [PyData.depth]; omega⟩
theorem oks_lst {n : Nat} {xs : List D} (h : ∀ x ∈ xs, Oks n x) : Oks (n + 1) (.lst xs) := by
  obtain ⟨b1, b2, b3⟩ := oksAll h
  unfold Oks
  rw [pD_lst h]
  refine ⟨by rw [toP, b1]; rfl, by rw [PyData.canLay0]; exact b2, by rw [PyData.depth]; omega⟩
theorem eqB_ok {d e : D} (h : Oks 150 d) (k : Oks 150 e) : eqB d e = some (PyData.eqv (pD d) (pD e)) := by
  unfold eqB
  rw [h.1, k.1]
  have : okP (pD d) (pD e) = true := by
    unfold okP
    have := h.2.2
    rw [h.2.1, k.2.1]
    simp only [Bool.true_and, decide_eq_true_eq]
    unfold deepest
    omega
  show (if okP (pD d) (pD e) = true then some (PyData.eqv (pD d) (pD e)) else none) = _
  rw [if_pos this]
theorem inL_ok {d : D} {xs : List D} (h : Oks 150 d) (k : ∀ x ∈ xs, Oks 150 x) : inL d xs = some (xs.any fun y => PyData.eqv (pD y) (pD d)) := by
  obtain ⟨b1, b2, b3⟩ := oksAll k
  unfold inL
  rw [h.1, b1]
  have : okIn (xs.map pD) (pD d) = true := by
    unfold okIn
    have := h.2.2
    rw [h.2.1, b2]
    simp only [Bool.true_and, decide_eq_true_eq]
    unfold deepest
    omega
  show (if okIn (xs.map pD) (pD d) = true then some ((xs.map pD).any fun y => PyData.eqv y (pD d)) else none) = _
  rw [if_pos this, List.any_map]
  rfl
/-- a kind of data: values of α lie as f says, == tells them apart -/
structure Cod {α : Type} [DecidableEq α] (n : Nat) (f : α → D) : Prop where
  ok : ∀ a, Oks n (f a)
  eq : ∀ a b, PyData.eqv (pD (f a)) (pD (f b)) = decide (a = b)
section
variable {α β : Type} [DecidableEq α] [DecidableEq β] {n m : Nat} {f : α → D} {g : β → D}
theorem cod_int : Cod 0 D.int := ⟨oks_int 0, fun a b => by
  show PyData.eqv (.int a) (.int b) = _
  rw [PyData.eqv]
  by_cases h : a = b
  · subst h; simp
  · simp [h]⟩
theorem Cod.all (c : Cod n f) : ∀ xs ys : List α, PyData.eqvAll ((xs.map f).map pD) ((ys.map f).map pD) = decide (xs = ys)
  | [], [] => rfl
  | [], y :: ys => by rw [List.map_cons, List.map_cons]; simp [PyData.eqvAll]
  | x :: xs, [] => by rw [List.map_cons, List.map_cons]; simp [PyData.eqvAll]
  | x :: xs, y :: ys => by
    rw [List.map_cons, List.map_cons, List.map_cons, List.map_cons, PyData.eqvAll, c.eq, Cod.all c xs ys]
    by_cases h : x = y <;> by_cases k : xs = ys <;> simp [h, k]
theorem Cod.oks (c : Cod n f) (xs : List α) : ∀ x ∈ xs.map f, Oks n x := fun x hx => by
  obtain ⟨a, _, rfl⟩ := List.mem_map.mp hx
  exact c.ok a
theorem Cod.tup (c : Cod n f) : Cod (n + 1) (fun xs : List α => D.tup (xs.map f)) := ⟨fun xs => oks_tup (c.oks xs), fun xs ys => by
  rw [pD_tup (c.oks xs), pD_tup (c.oks ys), PyData.eqv, c.all]⟩
theorem Cod.lst (c : Cod n f) : Cod (n + 1) (fun xs : List α => D.lst (xs.map f)) := ⟨fun xs => oks_lst (c.oks xs), fun xs ys => by
  rw [pD_lst (c.oks xs), pD_lst (c.oks ys), PyData.eqv, c.all]⟩
theorem Cod.pair (c : Cod n f) (e : Cod n g) : Cod (n + 1) (fun p : α × β => D.tup [f p.1, g p.2]) := by
  have h : ∀ p : α × β, ∀ x ∈ [f p.1, g p.2], Oks n x := fun p x hx => by
    rcases List.mem_cons.mp hx with rfl | hx
    · exact c.ok _
    · rcases List.mem_cons.mp hx with rfl | hx
      · exact e.ok _
      · cases hx
  refine ⟨fun p => oks_tup (h p), fun p q => ?_⟩
  rw [pD_tup (h p), pD_tup (h q), PyData.eqv]
  show PyData.eqvAll [pD (f p.1), pD (g p.2)] [pD (f q.1), pD (g q.2)] = _
  rw [PyData.eqvAll, PyData.eqvAll, PyData.eqvAll, c.eq, e.eq]
  obtain ⟨p1, p2⟩ := p
  obtain ⟨q1, q2⟩ := q
  by_cases h : p1 = q1 <;> by_cases k : p2 = q2 <;> simp [h, k]
theorem Cod.mono (c : Cod n f) (h : n ≤ m) : Cod m f := ⟨fun a => (c.ok a).mono h, c.eq⟩
theorem Cod.eqD (c : Cod n f) (hn : n ≤ 150) (a b : α) : DL.eqD (f a) (f b) = some (.bl (decide (a = b))) := by
  unfold DL.eqD
  rw [eqB_ok ((c.ok a).mono hn) ((c.ok b).mono hn), c.eq]
  rfl
theorem Cod.neD (c : Cod n f) (hn : n ≤ 150) (a b : α) : DL.neD (f a) (f b) = some (.bl (!decide (a = b))) := by
  unfold DL.neD
  rw [eqB_ok ((c.ok a).mono hn) ((c.ok b).mono hn), c.eq]
  rfl
theorem Cod.inL (c : Cod n f) (hn : n ≤ 150) (a : α) (xs : List α) : DL.inL (f a) (xs.map f) = some (decide (a ∈ xs)) := by
  rw [inL_ok ((c.ok a).mono hn) fun x hx => (c.oks xs x hx).mono hn, List.any_map]
  congr 1
  induction xs with
  | nil => rfl
  | cons x xs ih =>
    rw [List.any_cons, ih]
    show (PyData.eqv (pD (f x)) (pD (f a)) || _) = _
    rw [c.eq]
    by_cases h : x = a
    · subst h; simp
    · have : ¬ a = x := fun z => h z.symm
      simp [h, this]
end
/-! ### rows of integers -/
abbrev tN (xs : List Int) : D := .tup (xs.map .int)
abbrev lN (xs : List Int) : D := .lst (xs.map .int)
theorem eqD_int (i j : Int) : eqD (.int i) (.int j) = some (.bl (decide (i = j))) := cod_int.eqD (by omega) i j
theorem neD_int (i j : Int) : neD (.int i) (.int j) = some (.bl (!decide (i = j))) := cod_int.neD (by omega) i j
theorem eqD_tN (xs ys : List Int) : eqD (tN xs) (tN ys) = some (.bl (decide (xs = ys))) := cod_int.tup.eqD (by omega) xs ys
theorem neD_tN (xs ys : List Int) : neD (tN xs) (tN ys) = some (.bl (!decide (xs = ys))) := cod_int.tup.neD (by omega) xs ys
theorem neD_tN0 (xs : List Int) : neD (tN xs) (.tup []) = some (.bl (!decide (xs = []))) := neD_tN xs []
theorem inD_tN (i : Int) (xs : List Int) : inD (.int i) (tN xs) = some (.bl (decide (i ∈ xs))) := by
  show (inL (.int i) (xs.map .int)).map D.bl = _
  rw [cod_int.inL (by omega)]
  rfl
theorem atI_map {α β : Type} (f : α → β) (xs : List α) (i : Int) : atI (xs.map f) i = (atI xs i).map f := by
  unfold atI
  rw [List.length_map]
  cases ixN xs.length i with
  | none => rfl
  | some j => exact List.getElem?_map
theorem atI_pos {α : Type} {xs : List α} {i : Int} (h : 0 ≤ i) : atI xs i = xs[i.toNat]? := by
  unfold atI ixN
  rw [if_pos h]
  split
  · rfl
  · rw [List.getElem?_eq_none (by omega)]; rfl
theorem atI_neg1 {α : Type} {xs : List α} : atI xs (-1) = xs.getLast? := by
  unfold atI ixN
  rw [if_neg (by decide)]
  cases xs with
  | nil => rfl
  | cons x xs =>
    rw [if_pos (by rw [List.length_cons]; omega), List.getLast?_eq_getElem?]
    show (x :: xs)[((-1 : Int) + ((x :: xs).length : Nat)).toNat]? = _
    congr 1
    rw [List.length_cons]
    omega
theorem cutL_mapF {α β : Type} (f : α → β) (xs : List α) (lo hi : Option Int) : cutL (xs.map f) lo hi = (cutL xs lo hi).map f := by
  unfold cutL
  rw [List.length_map, ← List.map_drop, ← List.map_take]
theorem sIx_pos {n d : Nat} {k : Int} (h : 0 ≤ k) : HT.sIx n d (some k) = min k.toNat n := by
  show (if k < 0 then (k + (n : Int)).toNat else min k.toNat n) = _
  rw [if_neg (by omega)]
theorem sIx_neg1 {n d : Nat} : HT.sIx n d (some (-1)) = n - 1 := by
  show (if (-1 : Int) < 0 then ((-1 : Int) + (n : Int)).toNat else min (-1 : Int).toNat n) = _
  rw [if_pos (by decide)]
  omega
theorem cutL_hi {α : Type} (xs : List α) {k : Int} (h : 0 ≤ k) : cutL xs none (some k) = xs.take k.toNat := by
  unfold cutL
  rw [sIx_pos h, HT.sIx_none, List.drop_zero, Nat.sub_zero]
  by_cases hk : k.toNat ≤ xs.length
  · rw [Nat.min_eq_left hk]
  · rw [Nat.min_eq_right (by omega), List.take_length, List.take_of_length_le (by omega)]
theorem cutL_lo {α : Type} (xs : List α) {k : Int} (h : 0 ≤ k) : cutL xs (some k) none = xs.drop k.toNat := by
  unfold cutL
  rw [sIx_pos h, HT.sIx_none]
  by_cases hk : k.toNat ≤ xs.length
  · rw [Nat.min_eq_left hk, List.take_of_length_le (by rw [List.length_drop]; omega)]
  · rw [Nat.min_eq_right (by omega), List.drop_length, List.drop_eq_nil_of_le (by omega)]
    exact List.take_nil
theorem cutL_last {α : Type} (xs : List α) : cutL xs none (some (-1)) = xs.dropLast := by
  unfold cutL
  rw [sIx_neg1, HT.sIx_none, List.drop_zero, Nat.sub_zero, List.dropLast_eq_take]
theorem slD_tN (lo hi : Option Int) (xs : List Int) : slD lo hi (tN xs) = some (tN (cutL xs lo hi)) := by
  show some (D.tup (cutL (xs.map .int) lo hi)) = _
  rw [cutL_mapF]
theorem ixD_tN (xs : List Int) (i : Int) : ixD (tN xs) (.int i) = (atI xs i).map .int := atI_map _ _ _
theorem ixD_lN (xs : List Int) (i : Int) : ixD (lN xs) (.int i) = (atI xs i).map .int := atI_map _ _ _
theorem ixD_tN_at {xs : List Int} {i : Int} (h : 0 ≤ i) (k : i < xs.length) : ixD (tN xs) (.int i) = some (.int (xs.getD i.toNat 0)) := by
  rw [ixD_tN, atI_pos h, List.getD_eq_getElem?_getD, List.getElem?_eq_getElem (by omega)]
  rfl
theorem ixD_tN_last (xs : List Int) : ixD (tN xs) (.int (-1)) = xs.getLast?.map .int := by
  rw [ixD_tN, atI_neg1]
theorem lenD_tN (xs : List Int) : lenD [tN xs] = some (.int xs.length) := by
  show some (D.int ((xs.map D.int).length : Nat)) = _
  rw [List.length_map]
theorem addD_tN (xs ys : List Int) (h : xs.length + ys.length ≤ sizeLine) : addD (tN xs) (tN ys) = some (tN (xs ++ ys)) := by
  show (if (xs.map D.int).length + (ys.map D.int).length ≤ sizeLine then some (D.tup (xs.map D.int ++ ys.map D.int)) else none) = _
  rw [List.length_map, List.length_map, if_pos h, ← List.map_append]
/-! ### comprehensions, loops -/
theorem compM_filter {t : Env → M Bool} {f : Env → M D} {p : D → Bool} {h : D → D} {ρ : Env} {i : Nat} {τ : Tin} : ∀ ds : List D, (∀ d ∈ ds, t (ρ.set i (.d d)) τ = .ok (p d) τ) → (∀ d ∈ ds, p d = true → f (ρ.set i (.d d)) τ = .ok (h d) τ) → compM (gN i) t f ds ρ τ = .ok ((ds.filter p).map h) τ
  | [], _, _ => rfl
  | d :: ds, k, l => by
    have h1 := k d List.mem_cons_self
    have h2 := compM_filter ds (fun x hx => k x (List.mem_cons_of_mem _ hx)) fun x hx => l x (List.mem_cons_of_mem _ hx)
    show M.bind (calm (t (ρ.set i (.d d)))) _ τ = _
    cases e : p d with
    | true =>
      have h3 := l d List.mem_cons_self e
      rw [e] at h1
      simp only [M.bind, calm, M.pure, if_true, h1, h2, h3, List.filter_cons_of_pos e, List.map_cons]
    | false =>
      rw [e] at h1
      rw [List.filter_cons_of_neg (by rw [e]; decide)]
      simp only [M.bind, calm, M.pure, h1, Bool.false_eq_true, if_false]
      exact h2
theorem compM_map {f : Env → M D} {h : D → D} {ρ : Env} {i : Nat} {τ : Tin} (ds : List D) (k : ∀ d ∈ ds, f (ρ.set i (.d d)) τ = .ok (h d) τ) : compM (gN i) bYes f ds ρ τ = .ok (ds.map h) τ := by
  have := compM_filter (t := bYes) (p := fun _ => true) (τ := τ) ds (fun _ _ => rfl) fun d hd _ => k d hd
  rw [List.filter_eq_self.mpr fun _ _ => rfl] at this
  exact this
/-- a loop that goes on until p holds, and then returns v -/
theorem loop_find {b : G} {p : D → Bool} {v : D → D} {i : Nat} {τ : Tin} : ∀ (ds : List D) (ρ : Env), (∀ d ∈ ds, b (ρ.set i (.d d)) τ = if p d = true then .rt (v d) τ else .nx (ρ.set i (.d d)) τ) →
    (∃ d, ds.find? p = some d ∧ loopO (gN i) b ds ρ τ = .rt (v d) τ) ∨ (ds.find? p = none ∧ ∃ ρ', loopO (gN i) b ds ρ τ = .nx ρ' τ ∧ (ρ' = ρ ∨ ∃ d ∈ ds, ρ' = ρ.set i (.d d)))
  | [], ρ, _ => .inr ⟨rfl, ρ, rfl, .inl rfl⟩
  | d :: ds, ρ, h => by
    have h1 := h d List.mem_cons_self
    cases e : p d with
    | true =>
      rw [e, if_pos rfl] at h1
      refine .inl ⟨d, by rw [List.find?_cons_of_pos e], ?_⟩
      show turnO (b (ρ.set i (.d d)) τ) _ = _
      rw [h1]
      rfl
    | false =>
      rw [e, if_neg (by decide)] at h1
      have ih := loop_find ds (ρ.set i (.d d)) fun x hx => by
        have := h x (List.mem_cons_of_mem _ hx)
        rw [List.set_set]
        exact this
      have hl : loopO (gN i) b (d :: ds) ρ τ = loopO (gN i) b ds (ρ.set i (.d d)) τ := by
        show turnO (b (ρ.set i (.d d)) τ) _ = _
        rw [h1]
        rfl
      rw [hl, List.find?_cons_of_neg (by rw [e]; decide)]
      rcases ih with ⟨x, e1, e2⟩ | ⟨e1, ρ', e2, e3⟩
      · exact .inl ⟨x, e1, e2⟩
      · refine .inr ⟨e1, ρ', e2, .inr ?_⟩
        rcases e3 with rfl | ⟨x, hx, rfl⟩
        · exact ⟨d, List.mem_cons_self, rfl⟩
        · exact ⟨x, List.mem_cons_of_mem _ hx, by rw [List.set_set]⟩
theorem blsOf_mapF {α : Type} (p : α → Bool) : ∀ xs : List α, blsOf (xs.map fun x => D.bl (p x)) = some (xs.map p)
  | [] => rfl
  | x :: xs => by rw [List.map_cons, blsOf, blsOf_mapF p xs]; rfl
theorem allD_map {α : Type} (p : α → Bool) (xs : List α) : allD [.lst (xs.map fun x => D.bl (p x))] = some (.bl (xs.all p)) := by
  show (blsOf (xs.map fun x => D.bl (p x))).map _ = _
  rw [blsOf_mapF]
  simp

/-! ### rules for reckoning -/
theorem toB_bl (b : Bool) : toB (.bl b) = M.pure b := rfl
theorem toI_int (i : Int) : toI (.int i) = M.pure i := rfl
theorem ltD_int (i j : Int) : ltD (.int i) (.int j) = some (.bl (decide (i < j))) := rfl
theorem leD_int (i j : Int) : leD (.int i) (.int j) = some (.bl (decide (i ≤ j))) := rfl
theorem gtD_int (i j : Int) : gtD (.int i) (.int j) = some (.bl (decide (j < i))) := rfl
theorem geD_int (i j : Int) : geD (.int i) (.int j) = some (.bl (decide (j ≤ i))) := rfl
theorem subD_int (i j : Int) : subD (.int i) (.int j) = some (.int (i - j)) := rfl
theorem addD_int (i j : Int) : addD (.int i) (.int j) = some (.int (i + j)) := rfl
theorem negD_int (i : Int) : negD (.int i) = some (.int (-i)) := rfl
theorem maxD_int (i j : Int) : maxD [.int i, .int j] = some (.int (if j > i then j else i)) := rfl
theorem modD_int {i j : Int} (h : 0 < j) : modD (.int i) (.int j) = some (.int (i % j)) := by
  show (if decide (0 < j) = true then some (D.int (i % j)) else none) = _
  rw [if_pos (by simpa using h)]
theorem fdivD_int {i j : Int} (h : 0 < j) (k : j < 1073741824) : fdivD (.int i) (.int j) = some (.int (i / j)) := by
  show (if (decide (0 < j) && decide (j < 1073741824)) = true then some (D.int (i / j)) else none) = _
  rw [if_pos (by simp [h, k])]
theorem mulD_int {i j : Int} (h : small64 i = true ∨ small64 j = true) : mulD (.int i) (.int j) = some (.int (i * j)) := by
  show (if (small64 i || small64 j) = true then some (D.int (i * j)) else none) = _
  rw [if_pos (by simpa using h)]
theorem small64_of {i : Int} (h : -(2 ^ 64) < i) (k : i < 2 ^ 64) : small64 i = true := by
  unfold small64
  rw [Bool.and_eq_true, decide_eq_true_eq, decide_eq_true_eq]
  exact ⟨h, k⟩
theorem compM_filterP {t : Env → M Bool} {f : Env → M D} {p : D → Bool} {h : D → D} {ρ : Env} {i : Nat} (ds : List D) (k : ∀ d ∈ ds, t (ρ.set i (.d d)) = M.pure (p d)) (l : ∀ d ∈ ds, p d = true → f (ρ.set i (.d d)) = M.pure (h d)) : compM (gN i) t f ds ρ = M.pure ((ds.filter p).map h) :=
  funext fun τ => compM_filter ds (fun d hd => by rw [k d hd]; rfl) fun d hd hp => by rw [l d hd hp]; rfl
theorem compM_mapP {f : Env → M D} {h : D → D} {ρ : Env} {i : Nat} (ds : List D) (k : ∀ d ∈ ds, f (ρ.set i (.d d)) = M.pure (h d)) : compM (gN i) bYes f ds ρ = M.pure (ds.map h) :=
  funext fun τ => compM_map ds fun d hd => by rw [k d hd]; rfl
/-- over integers -/
theorem compM_ints {α : Type} {f : Env → M D} {h : α → D} {j : α → D} {ρ : Env} {i : Nat} (xs : List α) (k : ∀ x ∈ xs, f (ρ.set i (.d (j x))) = M.pure (h x)) : compM (gN i) bYes f (xs.map j) ρ = M.pure (xs.map h) := by
  induction xs with
  | nil => rfl
  | cons x xs ih =>
    rw [List.map_cons, List.map_cons]
    have e : compM (gN i) bYes f (j x :: xs.map j) ρ = M.bind (calm (M.pure true)) fun c => if c = true then M.bind (calm (f (ρ.set i (.d (j x))))) fun y => M.bind (compM (gN i) bYes f (xs.map j) ρ) fun ys => M.pure (y :: ys) else compM (gN i) bYes f (xs.map j) ρ := rfl
    rw [e, calm_pure, M.pure_bind, if_pos rfl, k x List.mem_cons_self, calm_pure, M.pure_bind, ih fun y hy => k y (List.mem_cons_of_mem _ hy), M.pure_bind]
theorem compM_if {α : Type} {t : Env → M Bool} {f : Env → M D} {p : α → Bool} {h : α → D} {j : α → D} {ρ : Env} {i : Nat} (xs : List α) (k : ∀ x ∈ xs, t (ρ.set i (.d (j x))) = M.pure (p x)) (l : ∀ x ∈ xs, p x = true → f (ρ.set i (.d (j x))) = M.pure (h x)) :
    compM (gN i) t f (xs.map j) ρ = M.pure ((xs.filter p).map h) := by
  induction xs with
  | nil => rfl
  | cons x xs ih =>
    rw [List.map_cons]
    have e : compM (gN i) t f (j x :: xs.map j) ρ = M.bind (calm (t (ρ.set i (.d (j x))))) fun c => if c = true then M.bind (calm (f (ρ.set i (.d (j x))))) fun y => M.bind (compM (gN i) t f (xs.map j) ρ) fun ys => M.pure (y :: ys) else compM (gN i) t f (xs.map j) ρ := rfl
    have ih := ih (fun y hy => k y (List.mem_cons_of_mem _ hy)) fun y hy => l y (List.mem_cons_of_mem _ hy)
    rw [e, k x List.mem_cons_self, calm_pure, M.pure_bind]
    cases hp : p x with
    | true => rw [if_pos rfl, l x List.mem_cons_self hp, calm_pure, M.pure_bind, ih, M.pure_bind, List.filter_cons_of_pos hp, List.map_cons]
    | false => rw [if_neg (by decide), ih, List.filter_cons_of_neg (by rw [hp]; decide)]
theorem fits_map {α : Type} {f : α → D} {xs : List α} (h : xs.length ≤ sizeLine) : fits (xs.map f) = true := by
  unfold fits
  rw [List.length_map]
  simpa using h
/-- a def's body ends with a value, whatever stands in the drawing list -/
theorem runG_rt {g : G} {n k : Nat} {ds : List D} {d : D} (hl : ds.length = n) (h : ∀ τ, g (ds.map .d ++ List.replicate (k - n) .un) τ = .rt d τ) : runG g n k ds = M.pure d := by
  funext τ
  unfold runG
  rw [if_pos hl, h τ]
  rfl
theorem runG_nx {g : G} {n k : Nat} {ds : List D} (hl : ds.length = n) (h : ∀ τ, g (ds.map .d ++ List.replicate (k - n) .un) τ = .nx (ds.map .d ++ List.replicate (k - n) .un) τ) : runG g n k ds = M.pure .non := by
  funext τ
  unfold runG
  rw [if_pos hl, h τ]
  rfl
theorem fits_nil : fits [] = true := rfl

theorem loop_findF {α : Type} {b : G} {p : α → Bool} {v j : α → D} {i : Nat} {τ : Tin} : ∀ (xs : List α) (ρ : Env), (∀ x ∈ xs, b (ρ.set i (.d (j x))) τ = if p x = true then .rt (v x) τ else .nx (ρ.set i (.d (j x))) τ) →
    (∃ x, xs.find? p = some x ∧ loopO (gN i) b (xs.map j) ρ τ = .rt (v x) τ) ∨ (xs.find? p = none ∧ ∃ ρ', loopO (gN i) b (xs.map j) ρ τ = .nx ρ' τ ∧ (ρ' = ρ ∨ ∃ d, ρ' = ρ.set i (.d d)))
  | [], ρ, _ => .inr ⟨rfl, ρ, rfl, .inl rfl⟩
  | x :: xs, ρ, h => by
    have h1 := h x List.mem_cons_self
    cases e : p x with
    | true =>
      rw [e, if_pos rfl] at h1
      refine .inl ⟨x, by rw [List.find?_cons_of_pos e], ?_⟩
      show turnO (b (ρ.set i (.d (j x))) τ) _ = _
      rw [h1]
      rfl
    | false =>
      rw [e, if_neg (by decide)] at h1
      have ih := loop_findF xs (ρ.set i (.d (j x))) fun y hy => by
        have := h y (List.mem_cons_of_mem _ hy)
        rw [List.set_set]
        exact this
      have hl : loopO (gN i) b ((x :: xs).map j) ρ τ = loopO (gN i) b (xs.map j) (ρ.set i (.d (j x))) τ := by
        show turnO (b (ρ.set i (.d (j x))) τ) _ = _
        rw [h1]
        rfl
      rw [hl, List.find?_cons_of_neg (by rw [e]; decide)]
      rcases ih with ⟨x, e1, e2⟩ | ⟨e1, ρ', e2, e3⟩
      · exact .inl ⟨x, e1, e2⟩
      · refine .inr ⟨e1, ρ', e2, .inr ?_⟩
        rcases e3 with rfl | ⟨d, rfl⟩
        · exact ⟨_, rfl⟩
        · exact ⟨d, by rw [List.set_set]⟩
theorem mulD_tN {xs : List Int} {k : Int} (h : repOk xs.length k = true) : mulD (tN xs) (.int k) = some (tN (List.replicate k.toNat xs).flatten) := by
  show (if repOk (xs.map D.int).length k = true then some (D.tup (List.replicate k.toNat (xs.map D.int)).flatten) else none) = _
  rw [List.length_map, if_pos h]
  show _ = some (D.tup (List.map D.int (List.replicate k.toNat xs).flatten))
  rw [List.map_flatten, List.map_replicate]
theorem rangeD_eq (lo : Int) (n : Nat) : rangeD lo n = (List.range n).map fun i : Nat => D.int (lo + (i : Int)) := rfl

theorem small64_nat {n : Nat} (h : n ≤ 1000000000) : small64 (n : Int) = true := small64_of (by omega) (by omega)
theorem bO_tin {β : Type} {k : Nat} {ρ ρ' : Env} {f : D → M β} {kk : β → Tin → O} {τ : Tin} : bO (M.bind (dTin 0 k (.d .tin :: ρ)) f) ρ' kk τ = bO (f (.int (tinAt k τ))) ρ' kk τ := rfl
theorem bO_do {α β : Type} {x : M α} {f : α → M β} {ρ : Env} {kk : β → Tin → O} {τ τ1 : Tin} {a : α} (h : x τ = .ok a τ1) : bO (M.bind x f) ρ kk τ = bO (f a) ρ kk τ1 := by
  unfold bO M.bind
  rw [h]
theorem runG_at {g : G} {n k : Nat} {ds : List D} {d : D} {τ τ' : Tin} (hl : ds.length = n) (h : g (ds.map .d ++ List.replicate (k - n) .un) τ = .rt d τ') : runG g n k ds τ = .ok d τ' := by
  unfold runG
  rw [if_pos hl, h]
theorem intD_int (i : Int) : DL.intD [.int i] = some (.int i) := rfl

/-! ### step by step -/
section
variable {i : Nat} {is : List Nat} {f : Env → M D} {fl : Env → M (List D)} {fs : Env → M (List S)} {t : Env → M Bool} {g h rest : G} {tg : D → Env → Option Env} {ρ ρ1 : Env} {τ τ' : Tin} {d : D} {ds : List D} {ss : List S} {o : O}
theorem st_setE (hf : f ρ τ = .ok d τ') (k : rest (ρ.set i (.d d)) τ' = o) : sSeq (sSet i f) rest ρ τ = o := by
  unfold sSeq sSet
  rw [bO_ok hf]
  exact k
theorem st_set (hf : f ρ = M.pure d) (k : rest (ρ.set i (.d d)) τ = o) : sSeq (sSet i f) rest ρ τ = o := st_setE (by rw [hf]; rfl) k
theorem st_manyE (hf : fs ρ τ = .ok ss τ') (hl : is.length = ss.length) (k : rest (setS ρ is ss) τ' = o) : sSeq (sMany is fs) rest ρ τ = o := by
  unfold sSeq sMany
  rw [bO_ok hf, if_pos hl]
  exact k
theorem st_asg (hf : f ρ = M.pure d) (hg : tg d ρ = some ρ1) (k : rest ρ1 τ = o) : sSeq (sAsg f tg) rest ρ τ = o := by
  unfold sSeq sAsg
  rw [hf, bO_pure, hg]
  exact k
theorem st_ifn (ht : t ρ = M.pure false) (k : rest ρ τ = o) : sSeq (sIf t g sNil) rest ρ τ = o := by
  unfold sSeq sIf
  rw [ht, bO_pure, if_neg (by decide)]
  exact k
theorem st_setF (hf : fl ρ = M.pure ds) (k : rest (ρ.set i (.d (.lst ds))) τ = o) : sSeq (sSetF i fl) rest ρ τ = o := by
  unfold sSeq sSetF
  rw [hf, bO_pure]
  exact k
theorem st_own (hf : fl ρ = M.pure ds) (k : rest (ρ.set i (.own ds)) τ = o) : sSeq (sOwn i fl) rest ρ τ = o := by
  unfold sSeq sOwn
  rw [hf, bO_pure]
  exact k
theorem st_do (hg : g ρ τ = .nx ρ1 τ') (k : rest ρ1 τ' = o) : sSeq g rest ρ τ = o := by
  unfold sSeq
  rw [hg]
  exact k
theorem st_expr (hf : f ρ = M.pure d) (k : rest ρ τ = o) : sSeq (sExpr f) rest ρ τ = o := by
  unfold sSeq sExpr
  rw [hf, bO_pure]
  exact k
theorem st_ret (hf : f ρ = M.pure d) : sRet f ρ τ = .rt d τ := by
  unfold sRet
  rw [hf, bO_pure]
end
theorem ixN_nat {n j : Nat} (hj : j < n) : ixN n (j : Int) = some j := by
  unfold ixN
  rw [if_pos (by omega), if_pos (by omega)]
  simp
end DL
end

section
set_option Elab.async false
set_option linter.all false
set_option maxRecDepth 100000
set_option maxHeartbeats 4000000
/-! DQ: more that is walked: enumerate over tuples, zip of a list and a tuple -/
namespace DL
open PySem PySem.Spec PyProof.Rows L2
set_option maxHeartbeats 8000000 in
/-- enumerate(v), v by what iter(v) makes -/
theorem en_meets {v : Value} {o : Obj} {Z : Heap → Prop} (B : Begins v o Z) :
    Meets (Builtin.«enumerate.__new__» ⟨[.type "enumerate", v], []⟩) (fun _ R s => Z s.heap ∧
      R (.ok (.ret (.ref (s.heap.push o).objs.size))) { s with heap := (s.heap.push o).push { cls := .type "enumerate", data := .fields #[.none, .bool false, .ref s.heap.objs.size, rawInt 0, .none, .none] } }) :=
  .of_wp fun prog w A R s h => by
    obtain ⟨hp, gs, dr, tk, os⟩ := s
    obtain ⟨hz, h⟩ := h
    have sub := sub_enumerate
    have it1 : ∀ {A' : Around} {E : Value → Shared → Prop} {Q : Value → Shared → Prop}, Q (.ref hp.objs.size) ⟨hp.push o, gs, dr, tk, os⟩ → wpAny (model prog w) A' (pyIter v) Q E ⟨hp, gs, dr, tk, os⟩ :=
      fun q => B.iter prog w _ _ ⟨hp, gs, dr, tk, os⟩ _ hz q
    wp_walk using it1
    refine wpAny_stack_any fun _ => wpAny_pure ?_
    split
    · rename_i c _ _ _ _ _
      cases (c == Value.type "enumerate") <;> (wp_walk using it1; exact ⟨_, rfl, h⟩)
    · wp_walk using it1; exact ⟨_, rfl, h⟩
theorem en_call {prog : Program} {w : World} {A : Around} {E : Value → Shared → Prop} {s : Shared} {v : Value} {o : Obj} {Z : Heap → Prop} {Q : Value → Shared → Prop} (B : Begins v o Z) (hz : Z s.heap)
    (k : ∀ h', IsEnum h' (s.heap.objs.size + 1) s.heap.objs.size 0 .none → h'.get? s.heap.objs.size = some o → (∀ b u, s.heap.get? b = some u → h'.get? b = some u) → Q (.ref (s.heap.objs.size + 1)) { s with heap := h' }) :
    wpAny (model prog w) A (call (.type "enumerate") [v]) Q E s := by
  refine callType_new F.called_enumerate (by decide) (F.typeCall_enumerate_1 _) (F.newCall_enumerate_1 _) (fun ob => F.args_object_init_2 ob _) F.entry_enumerate_new (en_meets B) ⟨hz, ?_⟩
  have sz : (s.heap.push o).objs.size = s.heap.objs.size + 1 := Heap.size_push ..
  rw [sz]
  have e1 : ((s.heap.push o).push { cls := .type "enumerate", data := .fields #[.none, .bool false, .ref s.heap.objs.size, rawInt 0, .none, .none] }).get? (s.heap.objs.size + 1) =
      some { cls := .type "enumerate", data := .fields #[.none, .bool false, .ref s.heap.objs.size, rawInt 0, .none, .none] } := by
    rw [← sz]
    exact Heap.get?_push_size _ rfl
  exact ⟨⟨_, e1, rfl⟩, k _ e1 (Heap.get?_push_of_some _ (Heap.get?_push_size _ B.free)) fun b u z => Heap.get?_push_of_some _ (Heap.get?_push_of_some _ z)⟩
/-- the tuple at a, of the items xs, each item with its number -/
def EnT (K : PySem.W.Frag) (a : Addr) (xs : List V) : It where
  go := fun i H => SqT K H a xs ∧ i < xs.length
  yld := fun i H v H' => ∃ T x, xs[i]? = some x ∧ v = .ref T ∧ H T = none ∧ H' = upd H T (.tup [.int (i : Nat), x])
  stop := fun i H => SqT K H a xs ∧ i = xs.length
theorem en_turn {P : Program} {w : World} {K : PySem.W.Frag} {elts : List Expr} {kk : Nat} {tpos : Pos} (a e it : Addr) (xs : List V) :
    Turn P w K (.Tuple elts kk tpos) (EnT K a xs) [e, it] e (fun i h => (∃ old, IsEnum h e it ((i : Nat) : Int) old) ∧ h.IsTupleIter it a i ∧ e ≠ it ∧ a ≠ it ∧ e ≠ a) where
  mem := List.mem_cons_self
  obj := fun i h st b hb => by
    obtain ⟨⟨old, he⟩, ⟨o, ho, hc, hd⟩, _⟩ := st
    rcases List.mem_cons.mp hb with z | z
    · subst z
      exact ⟨_, he, fun v q => by
        have q : Data.fields _ = Data.cell v := q
        cases q⟩
    · rw [List.mem_singleton.mp z]
      exact ⟨o, ho, fun v q => by rw [hd] at q; cases q⟩
  keep := fun i h h' st k => by
    obtain ⟨⟨old, he⟩, hi, r⟩ := st
    exact ⟨⟨old, k e (by simp) _ he⟩, hi.at fun o q => k it (by simp) o q, r⟩
  item := by
    intro X hP hw hK hc i pins s σ H E I hf st hg
    subst hP hw hK
    obtain ⟨⟨old, he⟩, hit, n1, n2, n3⟩ := st
    obtain ⟨hq, hl⟩ := hg
    obtain ⟨its, rv, pt, _⟩ := I.tuple hq
    have hx : xs[i]? = some xs[i] := List.getElem?_eq_getElem hl
    obtain ⟨u, hu, ru⟩ := rv.get hx
    have le : e < s.heap.objs.size := Heap.lt_size he
    have li : it < s.heap.objs.size := by obtain ⟨_, q, _⟩ := hit; exact Heap.lt_size q
    have Dw := Draws.tuple (prog := X.prog) (w := X.w) (A := X.A.in1) (I.ok.hd hc) it a n2 its.toArray
    have tl : its.toArray.size = xs.length := by rw [List.size_toArray]; exact rv.length.symm
    refine wpAny_pyNext_enum_itemD Dw he ⟨hit, pt⟩ (by rw [tl]; exact hl) n1 (by simp [n1, n3]) fun x h' tk px ho st' hT hsz kk' => ?_
    have ex : x = u := by
      have q : its[i]? = some x := by rw [← List.getElem?_toArray]; exact px
      rw [hu] at q
      exact (Option.some.inj q).symm
    subst ex
    refine ⟨_, rfl, wpAny_letOwnedTupleGo_enum (s := { s with heap := h', toks := tk + 1 }) ho fun h2 he2 sb => ?_⟩
    have hT2 := (sb.2 _ (Nat.ne_of_gt le)).trans hT
    have ok : ObjOk X.prog X.w (upd H s.heap.objs.size (.tup [.int (i : Nat), xs[i]])) h2 s.heap.objs.size (.tup [.int (i : Nat), xs[i]]) :=
      ⟨by show 2 ≤ sizeLine; decide, [.int i tk, x], .cons ⟨_, rfl⟩ (.cons ru .nil), ⟨_, hT2, rfl, _, rfl⟩⟩
    have I1 : Inv X pins σ (upd H s.heap.objs.size (.tup [.int (i : Nat), xs[i]])) { s with heap := h2, toks := tk + 1 } :=
      I.turnedNew (ch := [e, it]) (fun b ob hb q => (sb.2 b (fun z => hb (by simp [z]))).trans (kk' b ob (fun z => hb (by simp [z])) (fun z => hb (by simp [z])) q)) hf (Nat.le_refl _) ok
    refine ⟨.ref s.heap.objs.size, _, I1, rfl, ⟨_, _, hx, rfl, I.hok.fresh (Nat.le_refl _), rfl⟩, ⟨⟨x, ?_⟩, st'.1.at fun o q => (sb.2 it (Ne.symm n1)).trans q, n1, n2, n3⟩, fun b hb => ?_⟩
    · rw [show ((i + 1 : Nat) : Int) = (i : Int) + 1 from rfl]
      exact he2
    · have lb : b < s.heap.objs.size := by
        rcases List.mem_cons.mp hb with z | z
        · rw [z]; exact le
        · rw [List.mem_singleton.mp z]; exact li
      rw [upd_ne (Nat.ne_of_lt lb)]
      exact (hf b hb).1
  done := by
    intro X hP hw hK hc i pins s σ H E I hf st hg
    subst hP hw hK
    obtain ⟨⟨old, he⟩, hit, n1, n2, n3⟩ := st
    obtain ⟨hq, hl⟩ := hg
    obtain ⟨its, rv, pt, _⟩ := I.tuple hq
    obtain ⟨f0, f1, f2, f3, f4, f5⟩ := hf it (by simp)
    have tl : its.toArray.size = i := by rw [List.size_toArray, ← rv.length]; exact hl.symm
    have Dw := Draws.tuple (prog := X.prog) (w := X.w) (A := X.A.in1) (I.ok.hd hc) it a n2 its.toArray
    rw [tl] at Dw
    exact wpAny_pyNext_enum_endD Dw he ⟨hit, pt⟩ fun h' eb => ⟨rfl, I.turned (t' := s.toks) (fun b o hb q => eb b o hb q) f0 f1 f3 f4 f5⟩
  self := fun A i s Q E st h => let ⟨⟨_, he⟩, _⟩ := st; wpAny_pyIter_enum he h

section
variable {X : Cx} {W : WX} {e : Expr} {fa : Env → M D} {p pos tpos : Pos} {elts : List Expr} {kk : Nat}
def iEnA (K : PySem.W.Frag) (ta : TA) : TI := fun σ H R => ta σ H fun vs H1 => ∃ a xs, vs = [.ref a] ∧ ((SqL K H1 a xs ∧ R (Ite K a) H1) ∨ (SqT K H1 a xs ∧ R (EnT K a xs) H1))
theorem pi_enA {ta : TA} (hg : Gl X "enumerate") (hm : X.mg "enumerate" = none) (ha : PA X [e] ta) (hs : starEach [e] X.env = [(false, eval e X.env)] := by rfl) : PI X (.Tuple elts kk tpos) (.Call (.Name "enumerate" p) [e] [] pos) (iEnA X.K ta) := by
  refine ⟨fun pins s σ H R I h => Call_ (ld_blt I hg hm boot_enumerate (PyProof.Rows.callWith_type1 (thn (ha.run pos pins s σ H _ I h) fun us s1 ⟨vs, H1, I1, r1, q1⟩ => ?_) hs rfl))⟩
  obtain ⟨a, xs, rfl, q⟩ := q1
  rw [Vals.ref1 r1]
  have two : ∀ b, b ∈ [s1.heap.objs.size + 1, s1.heap.objs.size] → s1.heap.objs.size ≤ b := fun b hb => by
    rcases List.mem_cons.mp hb with z | z
    · omega
    · rw [List.mem_singleton.mp z]; exact Nat.le_refl _
  rcases q with ⟨hq, q⟩ | ⟨hq, q⟩
  · obtain ⟨its, rv, pl, _⟩ := I1.list hq
    exact call_enumerate_list pl.isList fun h' he hit _ hk => wpAny_pyIter_enum he ⟨s1.heap.objs.size + 1, [s1.heap.objs.size + 1, s1.heap.objs.size], _, _, H1, rfl, I1.kept (t' := s1.toks) hk, turn_enum a (s1.heap.objs.size + 1) s1.heap.objs.size,
      ⟨⟨.none, he⟩, hit, Nat.succ_ne_self _⟩, fun b hb => I1.fpOk (two b hb) (I1.hok.fresh (two b hb)), q⟩
  · obtain ⟨its, rv, pt, _⟩ := I1.tuple hq
    have la : a < s1.heap.objs.size := by
      obtain ⟨o, ho, _⟩ := pt
      exact Heap.lt_size ho
    exact en_call (begins_tuple a its.toArray) pt fun h' he hit hk => wpAny_pyIter_enum he ⟨s1.heap.objs.size + 1, [s1.heap.objs.size + 1, s1.heap.objs.size], _, _, H1, rfl, I1.kept (t' := s1.toks) hk, en_turn a (s1.heap.objs.size + 1) s1.heap.objs.size xs,
      ⟨⟨.none, he⟩, ⟨_, hit, rfl, rfl⟩, Nat.succ_ne_self _, Nat.ne_of_lt la, Nat.ne_of_gt (Nat.lt_succ_of_lt la)⟩, fun b hb => I1.fpOk (two b hb) (I1.hok.fresh (two b hb)), q⟩
def enumD : D → M (List D)
  | .lst xs => M.pure (pairD (numD xs.length) xs)
  | .tup xs => M.pure (pairD (numD xs.length) xs)
  | _ => M.no
/-- enumerate of a list or a tuple -/
def iEnum (fa : Env → M D) : Env → M (List D) := fun ρ => M.bind (fa ρ) enumD
theorem di_enum (hg : Gl X "enumerate") (hm : X.mg "enumerate" = none) (ha : DE X W false e fa) (hs : starEach [e] X.env = [(false, eval e X.env)] := by rfl) (he : starEach [e] X.env = (false, eval e X.env) :: starEach [] X.env := by rfl) :
    DI X W (.Tuple elts kk tpos) (.Call (.Name "enumerate" p) [e] [] pos) (DL.iEnum fa) := impPI (pi_enA hg hm (pa_cons ha pa_nil he) hs) fun σ H R ⟨T, F, ρ, τ, s, q⟩ => by
  refine tD_mono (tD_of (m := false) s s.bs.refl q) fun x H1 ⟨F1, τ1, d, x1, y1, s1, r1, q1⟩ => ?_
  have pl : ∀ ds : List D, (pairD (numD ds.length) ds).length = ds.length := fun ds => by
    rw [pairD_len]
    unfold numD
    rw [List.length_map, List.length_range, Nat.min_self]
  cases r1 with
  | @lst a vs ds hq hr =>
    refine ⟨a, vs, rfl, .inl ⟨SqL.of (s1.bs.le _ _ hq), q1 _ F1 H1 x1 ⟨YPair (fun i => some (.int (i : Nat))) (fun i => vs[i]?), ?_, ypair (fun i d x h1 h2 => ?_) fun i d x h1 h2 => ?_⟩⟩⟩
    · rw [pl, ← hr.length]
      exact walk_enum.mono (fun H le => SqL.of (le _ _ hq)) fun _ _ _ _ _ _ y => y
    · rw [numD_get h1]
      cases h2
      exact .int _
    · obtain ⟨v, hv, rv⟩ := hr.get h1
      rw [h2] at hv
      cases hv
      exact rv
  | @tup a vs ds hq hr =>
    refine ⟨a, vs, rfl, .inr ⟨seqT s1.bs.le hq, q1 _ F1 H1 x1 ⟨YPair (fun i => some (.int (i : Nat))) (fun i => vs[i]?), ?_, ypair (fun i d x h1 h2 => ?_) fun i d x h1 h2 => ?_⟩⟩⟩
    · rw [pl, ← hr.length]
      exact ⟨fun i H hi le => ⟨seqT le hq, hi⟩, fun H le => ⟨seqT le hq, rfl⟩, fun i H x H' hi le ⟨T', z, h1, h2, h3, h4⟩ => ⟨T', .int (i : Nat), z, h2, h3, h4, rfl, h1⟩⟩
    · rw [numD_get h1]
      cases h2
      exact .int _
    · obtain ⟨v, hv, rv⟩ := hr.get h1
      rw [h2] at hv
      cases hv
      exact rv
  | _ => exact q1.elim
end
end DL
end

section
set_option Elab.async false
set_option linter.all false
set_option maxRecDepth 100000
set_option maxHeartbeats 4000000
/-! DR: max, min, sum of a list of integers; list.index -/
namespace DL
open PySem PySem.Spec PyProof.Rows L2
def maxOf : List Int → Option Int
  | [] => none
  | n :: r => some (r.foldl max n)
def minOf : List Int → Option Int
  | [] => none
  | n :: r => some (r.foldl min n)
theorem fold_max : ∀ (r : List Int) (n : Int), (n ≤ r.foldl max n ∧ ∀ y ∈ r, y ≤ r.foldl max n) ∧ (r.foldl max n = n ∨ r.foldl max n ∈ r)
  | [], n => ⟨⟨Int.le_refl _, fun y h => by cases h⟩, .inl rfl⟩
  | x :: r, n => by
    obtain ⟨⟨h1, h2⟩, h3⟩ := fold_max r (max n x)
    refine ⟨⟨by rw [List.foldl_cons]; omega, fun y hy => ?_⟩, ?_⟩
    · rw [List.foldl_cons]
      rcases List.mem_cons.mp hy with rfl | hy
      · omega
      · exact h2 y hy
    · rw [List.foldl_cons]
      rcases h3 with h | h
      · by_cases hx : x ≤ n
        · exact .inl (by rw [h]; omega)
        · exact .inr (by rw [h, show max n x = x by omega]; exact List.mem_cons_self)
      · exact .inr (List.mem_cons_of_mem _ h)
theorem fold_min : ∀ (r : List Int) (n : Int), (r.foldl min n ≤ n ∧ ∀ y ∈ r, r.foldl min n ≤ y) ∧ (r.foldl min n = n ∨ r.foldl min n ∈ r)
  | [], n => ⟨⟨Int.le_refl _, fun y h => by cases h⟩, .inl rfl⟩
  | x :: r, n => by
    obtain ⟨⟨h1, h2⟩, h3⟩ := fold_min r (min n x)
    refine ⟨⟨by rw [List.foldl_cons]; omega, fun y hy => ?_⟩, ?_⟩
    · rw [List.foldl_cons]
      rcases List.mem_cons.mp hy with rfl | hy
      · omega
      · exact h2 y hy
    · rw [List.foldl_cons]
      rcases h3 with h | h
      · by_cases hx : n ≤ x
        · exact .inl (by rw [h]; omega)
        · exact .inr (by rw [h, show min n x = x by omega]; exact List.mem_cons_self)
      · exact .inr (List.mem_cons_of_mem _ h)
theorem maxOf_is {ns : List Int} {m m' : Int} (h : maxOf ns = some m) (h1 : m' ∈ ns) (h2 : ∀ y ∈ ns, y ≤ m') : m' = m := by
  cases ns with
  | nil => cases h
  | cons n r =>
    obtain ⟨⟨a1, a2⟩, a3⟩ := fold_max r n
    have h : some (r.foldl max n) = some m := h
    have h := Option.some.inj h
    rw [h] at a1 a2 a3
    have b : m ≤ m' := by
      rcases a3 with z | z
      · rw [z]; exact h2 n List.mem_cons_self
      · exact h2 m (List.mem_cons_of_mem _ z)
    rcases List.mem_cons.mp h1 with z | z
    · omega
    · have := a2 m' z; omega
theorem minOf_is {ns : List Int} {m m' : Int} (h : minOf ns = some m) (h1 : m' ∈ ns) (h2 : ∀ y ∈ ns, m' ≤ y) : m' = m := by
  cases ns with
  | nil => cases h
  | cons n r =>
    obtain ⟨⟨a1, a2⟩, a3⟩ := fold_min r n
    have h : some (r.foldl min n) = some m := h
    have h := Option.some.inj h
    rw [h] at a1 a2 a3
    have b : m' ≤ m := by
      rcases a3 with z | z
      · rw [z]; exact h2 n List.mem_cons_self
      · exact h2 m (List.mem_cons_of_mem _ z)
    rcases List.mem_cons.mp h1 with z | z
    · omega
    · have := a2 m' z; omega
def overL (f : List Int → Option Int) : List D → Option D
  | [.lst xs] => (intsOf xs).bind fun ns => (f ns).map .int
  | _ => none
def maxLD : List D → Option D := overL maxOf
def minLD : List D → Option D := overL minOf
def sumLD : List D → Option D := overL fun ns => some ns.sum
section
variable {X : Cx} {T : Option Addr} {F H : Hp} {τ : Tin}
theorem overL_of {f : List Int → Option Int} {xs : List V} {ds : List D} {r : D} (b : Bs T F H τ) (rs : RepMs true (kc X) T F H xs ds) (hr : overL f ds = some r) : ∃ (a : Addr) (ns : List Int) (m : Int), xs = [.ref a] ∧ SqL X.K H a (ns.map V.int) ∧ f ns = some m ∧ r = .int m := by
  match ds, hr, rs with
  | [.lst ys], hr, rs =>
    obtain ⟨x, rfl, rx⟩ := reps1 rs
    obtain ⟨p, vs, rfl, hp, rp⟩ := rx.lst b.le
    rw [overL] at hr
    cases e : intsOf ys with
    | none => rw [e] at hr; cases hr
    | some ns =>
      rw [e] at hr
      have hr : (f ns).map D.int = some r := hr
      cases e2 : f ns with
      | none => rw [e2] at hr; cases hr
      | some m =>
        rw [e2] at hr
        cases hr
        rw [intsOf_eq e] at rp
        exact ⟨p, ns, m, rfl, by rw [← rp.ints]; exact SqL.of hp, e2, rfl⟩
theorem maxOf_pos {ns : List Int} {m : Int} (h : maxOf ns = some m) : 0 < ns.length := by
  cases ns with
  | nil => cases h
  | cons n r => simp
theorem minOf_pos {ns : List Int} {m : Int} (h : minOf ns = some m) : 0 < ns.length := by
  cases ns with
  | nil => cases h
  | cons n r => simp
theorem cr_maxLQ (hc : X.calm = true) : CallR X (.builtin "max") (rDn (kc X) maxLD) := impCallR (cr_max hc) fun xs H Q ⟨T, F, τ, ds, b, rs, r, hr, k⟩ => by
  obtain ⟨a, ns, m, rfl, hs, hm, rfl⟩ := overL_of b rs hr
  exact ⟨a, ns, rfl, hs, maxOf_pos hm, fun m' h1 h2 => by rw [maxOf_is hm h1 h2]; exact k _ F H b.refl (.int _)⟩
theorem cr_minLQ (hc : X.calm = true) : CallR X (.builtin "min") (rDn (kc X) minLD) := impCallR (cr_min hc) fun xs H Q ⟨T, F, τ, ds, b, rs, r, hr, k⟩ => by
  obtain ⟨a, ns, m, rfl, hs, hm, rfl⟩ := overL_of b rs hr
  exact ⟨a, ns, rfl, hs, minOf_pos hm, fun m' h1 h2 => by rw [minOf_is hm h1 h2]; exact k _ F H b.refl (.int _)⟩
theorem cr_sumLQ (hc : X.calm = true) : CallR X (.builtin "sum") (rDn (kc X) sumLD) := impCallR (cr_sum hc) fun xs H Q ⟨T, F, τ, ds, b, rs, r, hr, k⟩ => by
  obtain ⟨a, ns, m, rfl, hs, hm, rfl⟩ := overL_of b rs hr
  cases hm
  exact ⟨a, ns, rfl, hs, k _ F H b.refl (.int _)⟩
end
/-! ### the place of an item -/
def idxP (ps : List PyData) (p : PyData) : Option D := if (SeqAt.shaped (.list ps) && SeqAt.shaped p) = true then (ps.findIdx? fun z => PyData.eqv z p).map fun j => .int (j : Nat) else none
def idxD (xs : List D) (d : D) : Option D := match toPs xs, toP d with
  | some ps, some p => idxP ps p
  | _, _ => none
def dIndex (fo fa : Env → M D) : Env → M D := fun ρ => M.bind (fo ρ) fun o => match o with
  | .lst xs => M.bind (fa ρ) fun x => M.lift (idxD xs x)
  | _ => M.no
section
variable {X : Cx} {W : WX} {m : Bool} {e o : Expr} {fo fa : Env → M D} {apos cpos : Pos}
theorem de_index (hu : X.A.units + 200 < cLine) (ho : DE X W true o fo) (ha : DE X W true e fa) (hbase : attributeBase o "index" X.env (eval o X.env) = eval o X.env := by rfl)
    (hfew : ((backTo cpos (starEach [e] X.env)).all (fun x => !x.1) && (backToKw cpos (keywordEach [] X.env)).all (fun x => x.1.isSome)
      && decide ([e].length + ([] : List Keyword).length + (if ([] : List Keyword).isEmpty then 0 else 1) < 30)) = true := by rfl)
    (hline : (apos.endLine == cpos.line) = true := by rfl) (hs : starEach [e] X.env = (false, eval e X.env) :: starEach [] X.env := by rfl) (hplain : (backTo cpos (starEach [] X.env)).any (·.1) = false := by rfl) :
    DE X W m (.Call (.Attribute o "index" apos) [e] [] cpos) (dIndex fo fa) :=
  impPE (pe_bm PySem.F.plainAttrs_list PySem.F.slot_list_index PySem.F.type_list_index (mt_indexD (by omega)) ho (pa_cons ha pa_nil hs) hbase hfew hline hs hplain) fun σ H Q ⟨T, F, ρ, τ, s, q⟩ => by
    refine tD_mono (tD_of (m := true) s s.bs.refl q) fun x H1 ⟨F1, τ1, d, x1, y1, s1, r1, q1⟩ => ?_
    cases d with
    | lst xs =>
      obtain ⟨a, vs, rfl, hq, rv⟩ := RepTop.lst r1 s1.bs.le
      refine ⟨.inl ⟨rfl, vs, SqL.of hq⟩, ?_⟩
      have ro : RepTop (kc X) T F1 H1 (.ref a) (.lst xs) := r1
      refine tD_mono (tD_of (m := true) s1 x1 q1) fun y H2 ⟨F2, τ2, d2, x2, y2, s2, r2, q2⟩ => ?_
      obtain ⟨rd, e1, q3⟩ := wpR_lift q2
      unfold idxD at e1
      cases p1 : toPs xs with
      | none => rw [p1] at e1; cases e1
      | some ps =>
        cases p2 : toP d2 with
        | none => rw [p1, p2] at e1; cases e1
        | some pd =>
          rw [p1, p2] at e1
          have e1 : idxP ps pd = some rd := e1
          unfold idxP at e1
          split at e1
          · rename_i hk
            rw [Bool.and_eq_true] at hk
            cases fi : ps.findIdx? (fun z => PyData.eqv z pd) with
            | none => rw [fi] at e1; cases e1
            | some j =>
              rw [fi] at e1
              cases e1
              obtain ⟨hj, g1, g2⟩ := List.findIdx?_eq_some_iff_getElem.mp fi
              have dl : Dp X.K H2 (.ref a) (.list ps) := by
                have w1 : Rep (kc X) T H2 (.ref a) (.lst xs) := (ro.ext y2).inH s2.bs.le
                exact w1.dp (by rw [toP, p1]; rfl)
              have dy : Dp X.K H2 y pd := Rep.dp ((RepM.top r2).inH s2.bs.le) p2
              refine ⟨a, y, pd, ps, j, ps[j], rfl, rfl, dl, dy, hk.1, hk.2, List.getElem?_eq_getElem hj, g1, fun i z hi hz => ?_, q3 _ F2 H2 x2 (repM (.int _))⟩
              have hil : i < ps.length := by omega
              rw [List.getElem?_eq_getElem hil] at hz
              rw [← Option.some.inj hz]
              have := g2 i hi
              simpa using this
          · cases e1
    | _ => exact q1.elim
end
end DL
end

section
set_option Elab.async false
set_option linter.all false
set_option maxRecDepth 100000
set_option maxHeartbeats 4000000
/-! DS: sets of nested tuples of integers -/
namespace DS
open PySem PySem.Spec PyProof.Rows L2
mutual
/-- integers and tuples of such, alone -/
def numK : NestedKey → Bool
  | .num _ => true
  | .tup ks => numKs ks
  | _ => false
def numKs : List NestedKey → Bool
  | [] => true
  | k :: ks => numK k && numKs ks
end
/-- at b stands the tuple k, not deeper than 8 -/
structure KeyAt (h : Heap) (k : NestedKey) (b : Addr) : Prop where
  is : NestedIs h k (.ref b)
  dp : k.depth ≤ 8
  num : numK k = true
section
variable {P : Program} {w : World} {A : Around} {E : Value → Shared → Prop} {s : Shared}
theorem KeyAt.kind {h : Heap} {k : NestedKey} {b : Addr} (x : KeyAt h k b) : (nestedKind P w).is h k b := ⟨x.is, x.dp⟩
theorem KeyAt.step {h h' : Heap} {k : NestedKey} {b : Addr} (x : KeyAt h k b) (st : ∀ c o vs n, h.get? c = some o → o.data = .seq vs n → h'.get? c = some o) : KeyAt h' k b := ⟨NestedIs.at st k _ x.is, x.dp, x.num⟩
theorem KeyAt.over {h h' : Heap} {k : NestedKey} {a b : Addr} {o : Obj} {es : Array (Int × Value)} {ep : Nat} {t : SetTable} (x : KeyAt h k b) (ho : h.get? a = some o) (hd : o.data = .set es ep t) (sb : Heap.SameBut a h h') : KeyAt h' k b :=
  x.step fun c u vs n hc hu => by
    refine (sb.2 c fun z => ?_).trans hc
    rw [z, ho] at hc
    rw [← Option.some.inj hc, hd] at hu
    exact nomatch hu
theorem KeyAt.keep {h h' : Heap} {k : NestedKey} {b : Addr} (x : KeyAt h k b) (st : ∀ c o, h.get? c = some o → h'.get? c = some o) : KeyAt h' k b := x.step fun c o _ _ e _ => st c o e
/-- a question about v whose answer is c, and that leaves all as it was -/
def Asks (P : Program) (w : World) (s : Shared) (f : Value → Sem Bool) (c : Bool) (v : Value) : Prop := ∀ (A : Around) (E : Value → Shared → Prop) (Q : Bool → Shared → Prop), Q c s → wpAny (model P w) A (f v) Q E s
theorem cls_tup {n : Nat} {b : Addr} {o : Obj} {vs : Array Value} {m : Nat} (ho : s.heap.get? b = some o) (hc : o.cls = .type "tuple") (hd : o.data = .seq vs m) (all : ∀ v ∈ vs.toList, Asks P w s (ofAClassStatement n) false v) :
    Asks P w s (ofAClassStatement (n + 1)) false (.ref b) := fun A E Q q => by
  have te : (("tuple" : String) == "tuple") = true := by decide
  unfold ofAClassStatement
  refine wpAny_bind (wpAny_typeOf ⟨o, ho, hc⟩ ?_)
  dsimp only
  simp only [te, if_true, Bool.not_true, Bool.false_eq_true, if_false]
  try refine wpAny_bind (wpAny_pure ?_)
  try simp only [Bool.not_true, Bool.false_eq_true, if_false]
  show wpAny _ _ (seqItems? (.ref b) >>= _) _ _ s
  refine wpAny_bind (wpAny_seqItems ho hd ?_)
  dsimp only
  refine wpAny_bind ?_
  show wpAny _ _ (forIn vs _ _) _ _ s
  rw [← Array.forIn_toList]
  refine wpAny_forIn_list _ (fun left r s' => (r.1 = none ∧ s' = s) ∧ ∀ v ∈ left, Asks P w s (ofAClassStatement n) false v) _ ?_ ?_ _ _ ⟨⟨rfl, rfl⟩, all⟩
  · rintro v left r s' ⟨⟨_, rfl⟩, al⟩
    refine wpAny_bind (al v List.mem_cons_self _ _ _ ?_)
    simp only [Bool.false_eq_true, if_false]
    exact wpAny_pure ⟨⟨rfl, rfl⟩, fun u hu => al u (List.mem_cons_of_mem _ hu)⟩
  · rintro ⟨r1, r2⟩ s' ⟨⟨z, rfl⟩, _⟩
    have z : r1 = none := z
    subst z
    exact wpAny_pure q
theorem hash_tup {n : Nat} {b : Addr} {o : Obj} {vs : Array Value} {m : Nat} (ho : s.heap.get? b = some o) (hc : o.cls = .type "tuple") (hd : o.data = .seq vs m) (all : ∀ v ∈ vs.toList, Asks P w s (hashByValue n) true v) :
    Asks P w s (hashByValue (n + 1)) true (.ref b) := fun A E Q q => by
  unfold hashByValue
  refine wpAny_bind (wpAny_specialOf ⟨o, ho, hc⟩ F.slot_tuple_hash.lookup ?_)
  show wpAny _ _ (seqItems? (.ref b) >>= _) _ _ s
  refine wpAny_bind (wpAny_seqItems ho hd (wpAny_bind ?_))
  show wpAny _ _ (forIn vs _ _) _ _ s
  rw [← Array.forIn_toList]
  refine wpAny_forIn_list _ (fun left r s' => (r.1 = none ∧ s' = s) ∧ ∀ v ∈ left, Asks P w s (hashByValue n) true v) _ ?_ ?_ _ _ ⟨⟨rfl, rfl⟩, all⟩
  · rintro v left r s' ⟨⟨_, rfl⟩, al⟩
    refine wpAny_bind (al v List.mem_cons_self _ _ _ ?_)
    simp only [Bool.not_true, Bool.false_eq_true, if_false]
    exact wpAny_pure ⟨⟨rfl, rfl⟩, fun u hu => al u (List.mem_cons_of_mem _ hu)⟩
  · rintro ⟨r1, r2⟩ s' ⟨⟨z, rfl⟩, _⟩
    have z : r1 = none := z
    subst z
    exact wpAny_pure q
mutual
theorem cls_num : ∀ (k : NestedKey) (v : Value) (n : Nat), NestedIs s.heap k v → numK k = true → k.depth ≤ n → Asks P w s (ofAClassStatement n) false v
  | .none, _, n, x, z, _ => by simp [numK] at z
  | .text y, _, n, x, z, _ => by simp [numK] at z
  | .num i, _, n, x, _, _ => by cases x <;> cases n <;> exact fun A E Q q => wpAny_pure q
  | .tup ks, _, n, x, z, hn => by
    cases x with
    | tup ho hc hd hk =>
      rw [NestedKey.depth] at hn
      rw [numK] at z
      cases n with
      | zero => omega
      | succ n => exact cls_tup ho hc hd (cls_nums ks _ n hk z (by omega))
theorem cls_nums : ∀ (ks : List NestedKey) (vs : List Value) (n : Nat), NestedAll s.heap ks vs → numKs ks = true → NestedKey.depthAll ks ≤ n → ∀ v ∈ vs, Asks P w s (ofAClassStatement n) false v
  | [], _, n, x, _, _, v, hv => by cases x; cases hv
  | k :: ks, _, n, x, z, hn, v, hv => by
    cases x with
    | cons x1 x2 =>
      rw [NestedKey.depthAll] at hn
      rw [numKs, Bool.and_eq_true] at z
      rcases List.mem_cons.mp hv with rfl | hv
      · exact cls_num k _ n x1 z.1 (by omega)
      · exact cls_nums ks _ n x2 z.2 (by omega) v hv
end
mutual
theorem hash_num : ∀ (k : NestedKey) (v : Value) (n : Nat), NestedIs s.heap k v → numK k = true → k.depth ≤ n → Asks P w s (hashByValue n) true v
  | .none, _, n, x, z, _ => by simp [numK] at z
  | .text y, _, n, x, z, _ => by simp [numK] at z
  | .num i, _, n, x, _, _ => by cases x <;> cases n <;> exact fun A E Q q => wpAny_pure q
  | .tup ks, _, n, x, z, hn => by
    cases x with
    | tup ho hc hd hk =>
      rw [NestedKey.depth] at hn
      rw [numK] at z
      cases n with
      | zero => omega
      | succ n => exact hash_tup ho hc hd (hash_nums ks _ n hk z (by omega))
theorem hash_nums : ∀ (ks : List NestedKey) (vs : List Value) (n : Nat), NestedAll s.heap ks vs → numKs ks = true → NestedKey.depthAll ks ≤ n → ∀ v ∈ vs, Asks P w s (hashByValue n) true v
  | [], _, n, x, _, _, v, hv => by cases x; cases hv
  | k :: ks, _, n, x, z, hn, v, hv => by
    cases x with
    | cons x1 x2 =>
      rw [NestedKey.depthAll] at hn
      rw [numKs, Bool.and_eq_true] at z
      rcases List.mem_cons.mp hv with rfl | hv
      · exact hash_num k _ n x1 z.1 (by omega)
      · exact hash_nums ks _ n x2 z.2 (by omega) v hv
end
theorem KeyAt.cls {k : NestedKey} {b : Addr} (x : KeyAt s.heap k b) : Asks P w s (ofAClassStatement 8) false (.ref b) := cls_num k _ 8 x.is x.num x.dp
theorem KeyAt.byVal {k : NestedKey} {b : Addr} (x : KeyAt s.heap k b) : Asks P w s (hashByValue 8) true (.ref b) := hash_num k _ 8 x.is x.num x.dp
theorem KeyAt.quiet {k : NestedKey} {b : Addr} (x : KeyAt s.heap k b) : Asks P w s (eqIsQuiet 8) true (.ref b) := fun A E Q q => (nestedKind P w).quiet x.kind q
/-- a search among such keys shows nothing -/
theorem unseen {k : NestedKey} {b : Addr} {ys : List Value} {Q : Bool → Shared → Prop} (x : KeyAt s.heap k b) (hy : ∀ y ∈ ys, ∃ k' c, y = Value.ref c ∧ KeyAt s.heap k' c) (q : Q false s) : wpAny (model P w) A (searchCouldBeSeen (.ref b) ys) Q E s := by
  unfold searchCouldBeSeen
  refine wpAny_bind (wpAny_forIn_list _ (fun left r s' => (r.1 = none ∧ s' = s) ∧ ∀ y ∈ left, ∃ k' c, y = Value.ref c ∧ KeyAt s.heap k' c) _ ?_ ?_ _ _ ⟨⟨rfl, rfl⟩, hy⟩)
  · rintro v left r s' ⟨⟨_, rfl⟩, al⟩
    obtain ⟨k', c, rfl, hc⟩ := al v List.mem_cons_self
    have al' : ∀ y ∈ left, ∃ k' c, y = Value.ref c ∧ KeyAt s'.heap k' c := fun u hu => al u (List.mem_cons_of_mem _ hu)
    dsimp only
    by_cases hv : (b == c || (carriedByValue (.ref b) && carriedByValue (.ref c))) = true
    · exact wp_if_pos hv (wpAny_pure ⟨⟨rfl, rfl⟩, al'⟩)
    · refine wp_if_neg hv (wpAny_bind (x.quiet _ _ _ ?_))
      simp only [Bool.not_true, Bool.false_eq_true, if_false]
      refine wpAny_bind (hc.quiet _ _ _ ?_)
      simp only [Bool.not_true, Bool.false_eq_true, if_false]
      refine wpAny_bind (x.cls _ _ _ ?_)
      simp only [Bool.false_eq_true, if_false]
      refine wpAny_bind (hc.cls _ _ _ ?_)
      simp only [Bool.false_eq_true, if_false]
      exact wpAny_pure ⟨⟨rfl, rfl⟩, al'⟩
  · rintro ⟨r1, r2⟩ s' ⟨⟨z, rfl⟩, _⟩
    have z : r1 = none := z
    subst z
    exact wpAny_pure q
end

/-! ### the set itself -/
/-- the table's rows: the hash, the tuple -/
def rows (w : World) (L : List (Addr × NestedKey)) : List (Int × Value) := L.map fun p => (p.2.hash w, Value.ref p.1)
def hs (w : World) (L : List (Addr × NestedKey)) : List Int := L.map fun p => p.2.hash w
def ks (L : List (Addr × NestedKey)) : List NestedKey := L.map (·.2)
/-- at a stands a set of the keys L, its rows es, its table t -/
structure SetAtN (w : World) (h : Heap) (a : Addr) (L : List (Addr × NestedKey)) (es : Array (Int × Value)) (ep : Nat) (t : SetTable) : Prop where
  obj : ∃ o, h.get? a = some o ∧ o.ExactSet ∧ o.data = .set es ep t
  row : es.toList = rows w L
  tab : TabOk t (hs w L)
  nod : (ks L).Nodup
  key : ∀ p ∈ L, KeyAt h p.2 p.1
  pln : t.plain = true
  led : w.params.followText "set-order" = true ∨ t.led = true
  air : L.length * 5 < t.mask * 3
  few : L.length < 64
section
variable {P : Program} {w : World} {A : Around} {E : Value → Shared → Prop} {s : Shared} {a : Addr} {L : List (Addr × NestedKey)} {es : Array (Int × Value)} {ep : Nat} {t : SetTable}
theorem size_of_rows (h : es.toList = rows w L) : es.size = L.length := by
  have := congrArg List.length h
  rwa [Array.length_toList, rows, List.length_map] at this
theorem fits_of (T : TabOk t (hs w L)) (hz : es.size = L.length) (hl : L.length ≤ t.mask) : t.fits es.size = true := by
  have z := T.sz
  rw [hs, List.length_map] at z
  unfold SetTable.fits SetTable.fill
  rw [T.dm, Bool.and_eq_true, beq_iff_eq, decide_eq_true_eq]
  exact ⟨by omega, by show t.place.size + 0 ≤ t.mask; omega⟩
theorem SetAtN.fits (R : SetAtN w s.heap a L es ep t) : t.fits es.size = true := fits_of R.tab (size_of_rows R.row) (by have := R.air; omega)
theorem row_at (h : es.toList = rows w L) {i : Nat} {p : Addr × NestedKey} (hi : L[i]? = some p) : es[i]? = some (p.2.hash w, Value.ref p.1) := by
  rw [← Array.getElem?_toList, h, rows, List.getElem?_map, hi]
  rfl
theorem SetAtN.roads (R : SetAtN w s.heap a L es ep t) : ¬ t.gaveWay = true := by
  have := mask_odd R.tab.mok
  unfold SetTable.gaveWay
  rw [this]
  decide
/-- the c-th step of the way of the hash h -/
abbrev stepAt (m : Nat) (h : Int) (c : Nat) : SetTable.Probe := nth m (runAt m (SetTable.bits h % (m + 1)) (SetTable.bits h)) c
theorem stepAt_add (m : Nat) (h : Int) (c q : Nat) : nth m (stepAt m h c) q = stepAt m h (c + q) := (nth_add m c _ q).symm
theorem stepAt_way (m : Nat) (h : Int) (c q : Nat) : (nth m (stepAt m h c) q).j = way m h (c + q) := by rw [stepAt_add]
theorem nth_clean (m : Nat) : ∀ (n : Nat) (p : SetTable.Probe), p.dummy = none → (nth m p n).dummy = none
  | 0, _, h => h
  | n + 1, p, h => nth_clean m n (adv m p) (by unfold adv; split <;> exact h)
/-- THE SEARCH from the c-th step on -/
theorem find_from (R : SetAtN w s.heap a L es ep t) {x : Addr} {k : NestedKey} (hx : KeyAt s.heap k x) (hu : A.units + 8 < cLine) {K : Nat} (hKf : K < 10 * SetTable.turns t.mask)
    (hK : way t.mask (k.hash w) K ∉ t.place.toList) (hKb : ∀ c, c < K → way t.mask (k.hash w) c ∈ t.place.toList) {Q : SetFound → Shared → Prop}
    (yes : k ∈ ks L → Q (.there none) s) (no : k ∉ ks L → Q (.free (way t.mask (k.hash w) K) false) s) :
    ∀ (f c : Nat) (stand : Option SetTable.Probe), stand.getD (t.probeStart (k.hash w)) = stepAt t.mask (k.hash w) c → c ≤ K → K - c < f →
      (∀ (i : Nat) p, L[i]? = some p → p.2 = k → ∃ c', c ≤ c' ∧ c' < K ∧ t.place.toList[i]? = some (way t.mask (k.hash w) c')) →
      wpAny (model P w) A (setSearchFrom a (.ref x) (k.hash w) true f stand) Q E s
  | 0, c, stand, _, _, hf, _ => absurd hf (Nat.not_lt_zero _)
  | f + 1, c, stand, hst, hc, hf, ahead => by
    obtain ⟨o, ho, hex, hd⟩ := R.obj
    have hsz := size_of_rows R.row
    rw [setSearchFrom_succ]
    refine wpAny_bind (wpAny_setState_of ho hd R.fits ?_)
    dsimp only
    refine wp_if_neg R.roads ?_
    try refine wpAny_bind (wpAny_pure ?_)
    have at_hash : ∀ (i : Nat) p, L[i]? = some p → (es[i]?.map (·.1)).getD 0 = p.2.hash w := fun i p hp => by rw [row_at R.row hp]; rfl
    have spec := go_spec t R.tab.ris R.tab.dm (fun i => (es[i]?.map (·.1)).getD 0) (k.hash w) (10 * SetTable.turns t.mask) (K - c) (stepAt t.mask (k.hash w) c) (nth_clean _ _ _ rfl) (by omega)
      (fun q hq => by rw [stepAt_way]; exact hKb _ (by omega)) (by rw [stepAt_way, show c + (K - c) = K by omega]; exact hK)
    rcases spec with ⟨q, i, hq, hi, _, early, hpr⟩ | ⟨early, hpr⟩
    · rw [stepAt_way] at hi
      have hpr : t.probe (fun i => (es[i]?.map (·.1)).getD 0) (k.hash w) (stand.getD (t.probeStart (k.hash w))) = some (.candidate (way t.mask (k.hash w) (c + q)) i (stepAt t.mask (k.hash w) (c + (q + 1)))) := by
        rw [hst, ← stepAt_way, ← stepAt_add]
        exact hpr
      rw [hpr]
      dsimp only
      have il : i < L.length := by
        have z := R.tab.sz
        rw [hs, List.length_map] at z
        have := (List.getElem?_eq_some_iff.mp hi).1
        rw [Array.length_toList] at this
        omega
      obtain ⟨p, hp⟩ : ∃ p, L[i]? = some p := ⟨_, List.getElem?_eq_getElem il⟩
      have pm := List.mem_of_getElem? hp
      have pk := R.key p pm
      have sl : t.slot (way t.mask (k.hash w) (c + q)) = .live i := slot_live R.tab.ris hi
      have rest : wpAny (model P w) A (searchRest a (.ref x) (k.hash w) true f es t (way t.mask (k.hash w) (c + q)) i (stepAt t.mask (k.hash w) (c + (q + 1)))) Q E s := by
        unfold searchRest
        rw [row_at R.row hp]
        dsimp only
        refine wpAny_bind (wpAny_holding ((nestedKind P w).eqBool hu pk.kind hx.kind ?_))
        refine wpAny_bind (wpAny_setState_of ho hd R.fits ?_)
        dsimp only
        by_cases e : p.2 = k
        · exact wp_if_pos (by simp [e]) (wpAny_pure (yes (List.mem_map.mpr ⟨p, pm, e⟩)))
        · refine wp_if_neg (by simp [e]) ?_
          try refine wpAny_bind (wpAny_pure ?_)
          rw [sameMem]
          dsimp only
          simp only [if_true, sl, row_at R.row hp]
          refine wpAny_bind (wpAny_isSame_ref_self (wpAny_bind (wpAny_pure ?_)))
          simp only [if_true]
          refine wp_if_neg (by simp [e]) (find_from R hx hu hKf hK hKb yes no f (c + (q + 1)) _ rfl (by omega) (by omega) fun i' p' h1 h2 => ?_)
          obtain ⟨c', b1, b2, b3⟩ := ahead i' p' h1 h2
          refine ⟨c', ?_, b2, b3⟩
          rcases Nat.lt_trichotomy c' (c + q) with z | z | z
          · exact absurd ((at_hash i' p' h1).trans (by rw [h2])) (early (c' - c) i' (by omega) (by rw [stepAt_way, show c + (c' - c) = c' by omega]; exact b3))
          · rw [z] at b3
            have u := slot_live R.tab.ris b3
            rw [sl] at u
            injection u with u
            rw [← u, hp] at h1
            exact absurd ((congrArg Prod.snd (Option.some.inj h1)).trans h2) e
          · omega
      by_cases hl : t.led = true
      · refine wp_if_neg (by simp [hl]) ?_
        try refine wpAny_bind (wpAny_pure ?_)
        exact rest
      · refine wp_if_pos (by simp [hl]) (wpAny_bind (unseen hx (fun y hy => ?_) ?_))
        · obtain ⟨r, hr, rfl⟩ := List.mem_map.mp hy
          have hr2 : r ∈ es.toList := by
            have : r ∈ es ∧ r.1 = k.hash w := by simpa using hr
            simpa using this.1
          rw [R.row] at hr2
          obtain ⟨p', h1, rfl⟩ := List.mem_map.mp hr2
          exact ⟨p'.2, p'.1, rfl, R.key p' h1⟩
        · refine wp_if_neg (by decide) ?_
          try refine wpAny_bind (wpAny_pure ?_)
          exact rest
    · have hpr : t.probe (fun i => (es[i]?.map (·.1)).getD 0) (k.hash w) (stand.getD (t.probeStart (k.hash w))) = some (.empty (way t.mask (k.hash w) K) none) := by
        have e2 : way t.mask (k.hash w) K = (nth t.mask (stepAt t.mask (k.hash w) c) (K - c)).j := by rw [stepAt_way, show c + (K - c) = K by omega]
        rw [hst, e2]
        exact hpr
      rw [hpr]
      dsimp only
      refine wpAny_pure (no fun hm => ?_)
      obtain ⟨p', h1, h2⟩ := List.mem_map.mp hm
      obtain ⟨i', hi', e⟩ := List.getElem_of_mem h1
      have h3 : L[i']? = some p' := by rw [List.getElem?_eq_getElem hi', e]
      obtain ⟨c', b1, b2, b3⟩ := ahead i' p' h3 h2
      exact early (c' - c) i' (by omega) (by rw [stepAt_way, show c + (c' - c) = c' by omega]; exact b3) ((at_hash i' p' h3).trans (by rw [h2]))
/-- the search as adding asks for it -/
theorem find_at (R : SetAtN w s.heap a L es ep t) {x : Addr} {k : NestedKey} (hx : KeyAt s.heap k x) (hu : A.units + 8 < cLine) {Q : SetFound → Shared → Prop} (yes : k ∈ ks L → Q (.there none) s)
    (no : ∀ K, k ∉ ks L → way t.mask (k.hash w) K ∉ t.place.toList → (∀ c, c < K → way t.mask (k.hash w) c ∈ t.place.toList) → Q (.free (way t.mask (k.hash w) K) false) s) :
    wpAny (model P w) A (setSearch a (.ref x) (k.hash w) true) Q E s := by
  obtain ⟨K, kf, h1, h2⟩ := R.tab.first (by rw [hs, List.length_map]; have := R.air; omega) (k.hash w)
  have big : K < 100000 := by
    have : 10 * SetTable.turns t.mask ≤ 1420 := by
      unfold SetTable.turns
      rcases R.tab.mok with e | e | e <;> omega
    omega
  unfold setSearch
  refine find_from R hx hu kf h1 h2 yes (fun m => no K m h1 h2) 100000 0 none rfl (Nat.zero_le _) (by omega) fun i p hp hk => ?_
  have hi : (hs w L)[i]? = some (k.hash w) := by rw [hs, List.getElem?_map, hp, ← hk]; rfl
  have il : i < t.place.toList.length := by
    have z := R.tab.sz
    rw [hs, List.length_map] at z
    have := (List.getElem?_eq_some_iff.mp hp).1
    rw [Array.length_toList]
    omega
  obtain ⟨c, hc, e⟩ := R.tab.before h1 hi (List.getElem?_eq_getElem il)
  exact ⟨c, Nat.zero_le _, hc, by rw [List.getElem?_eq_getElem il, e]⟩
end
end DS
end

section
set_option Elab.async false
set_option linter.all false
set_option maxRecDepth 100000
set_option maxHeartbeats 4000000
/-! DS2: adding to a set of nested tuples; set(..) -/
namespace DS
open PySem PySem.Spec PyProof.Rows L2
section
variable {P : Program} {w : World} {A : Around} {E : Value → Shared → Prop} {s : Shared} {a : Addr} {L : List (Addr × NestedKey)} {es : Array (Int × Value)} {ep : Nat} {t : SetTable}
theorem ks_perm {L L' : List (Addr × NestedKey)} (p : L.Perm L') : (ks L).Perm (ks L') := p.map _
/-- rows picked in another order are the rows of a rearrangement -/
theorem rows_order (order : Array Nat) (hr : es.toList = rows w L) (hp : order.toList.Perm (List.range L.length)) :
    ∃ L2, (order.filterMap (es[·]?)).toList = rows w L2 ∧ L2.Perm L ∧ hs w L2 = order.toList.map fun i => (es.map (·.1)).getD i 0 := by
  have hz := size_of_rows hr
  have pick : ∀ l : List Nat, (∀ i ∈ l, i < L.length) → l.filterMap (fun i => es[i]?) = rows w (l.filterMap fun i => L[i]?) ∧ hs w (l.filterMap fun i => L[i]?) = l.map fun i => (es.map (·.1)).getD i 0 := by
    intro l
    induction l with
    | nil => exact fun _ => ⟨rfl, rfl⟩
    | cons i l ih =>
      intro hl
      have il := hl i List.mem_cons_self
      have g := List.getElem?_eq_getElem il
      have r := row_at hr g
      obtain ⟨e1, e2⟩ := ih fun j hj => hl j (List.mem_cons_of_mem _ hj)
      rw [List.filterMap_cons_some r, List.filterMap_cons_some g, e1, List.map_cons]
      refine ⟨rfl, ?_⟩
      have e3 : (es.map (·.1)).getD i 0 = (L[i]).2.hash w := by
        have : (es.map (·.1))[i]? = some ((L[i]).2.hash w) := by rw [Array.getElem?_map, r]; rfl
        simp [Array.getD_eq_getD_getElem?, this]
      rw [e3, ← e2]
      rfl
  obtain ⟨e1, e2⟩ := pick order.toList fun i hi => List.mem_range.mp (hp.mem_iff.mp hi)
  refine ⟨order.toList.filterMap fun i => L[i]?, by first | (rw [Array.toList_filterMap]; exact e1) | simpa using e1, ?_, e2⟩
  have all : ∀ n, n ≤ L.length → (List.range n).filterMap (fun i => L[i]?) = L.take n := by
    intro n
    induction n with
    | zero => exact fun _ => rfl
    | succ n ih =>
      intro hn
      have g := List.getElem?_eq_getElem (show n < L.length from hn)
      rw [List.range_succ, List.filterMap_append, ih (by omega), List.filterMap_cons_some g, List.filterMap_nil, List.take_succ, g]
      rfl
  have := hp.filterMap fun i => L[i]?
  rw [all _ (Nat.le_refl _), List.take_length] at this
  exact this
/-- the table laid anew -/
theorem relay_at {o : Obj} (ho : s.heap.get? a = some o) (hex : o.ExactSet) (hd : o.data = .set es ep t) (hr : es.toList = rows w L) (T : TabOk t (hs w L)) (hl : L.length ≤ t.mask) (nod : (ks L).Nodup) (key : ∀ p ∈ L, KeyAt s.heap p.2 p.1) (pln : t.plain = true)
    (led : w.params.followText "set-order" = true ∨ t.led = true) (few : L.length < 64) {want M : Nat} (hw : SetTable.sizeAbove want - 1 = M) (hM : MaskOk M) (hw2 : SetTable.sizeAbove want ≤ 128) (air : L.length * 5 < M * 3) {Q : Unit → Shared → Prop}
    (k : ∀ h' L' es' ep' t', Heap.SameBut a s.heap h' → SetAtN w h' a L' es' ep' t' → L'.Perm L → Q () { s with heap := h' }) : wpAny (model P w) A (setRelay a want) Q E s := by
  have hz := size_of_rows hr
  obtain ⟨t', order, e, hp, T2, em, el, pe, ed⟩ := relaid_ok t (hs := es.map (·.1)) (wanted := want) hw hM (by rw [Array.size_map, hz]; omega)
  rw [Array.size_map, hz] at hp
  obtain ⟨L2, r1, r2, r3⟩ := rows_order order hr hp
  rw [← r3] at T2
  have z2 : (order.filterMap (es[·]?)).size = es.size := by rw [size_of_rows r1, r2.length_eq, hz]
  rw [setRelay_eq]
  refine wpAny_bind (wpAny_setState_of ho hd (fits_of T hz hl) ?_)
  dsimp only
  refine wp_if_neg (by rw [sizeLine_eq]; omega) ?_
  try refine wpAny_bind (wpAny_pure ?_)
  rw [e]
  dsimp only
  refine wpAny_bind (wp_if_neg (by rw [z2]; simp) ?_)
  try refine wpAny_bind (wpAny_pure ?_)
  refine wpAny_pure ?_
  dsimp only
  refine wpAny_storeSet_of ho hd ?_ (by rw [z2, hz, sizeLine_eq]; omega)
  have sb : Heap.SameBut a s.heap (s.heap.update a (Obj.putSet (order.filterMap (es[·]?)) t')) := Heap.SameBut.update ..
  exact k _ L2 _ (ep + 1) t' sb ⟨⟨_, store_at ho hd, ⟨hex.1, hex.2.1, hex.2.2⟩, rfl⟩, r1, T2, (ks_perm r2).nodup_iff.mpr nod, fun p hm => (key p (r2.mem_iff.mp hm)).over ho hd sb, by rw [pe]; exact pln, by rw [el]; exact led,
    by rw [r2.length_eq, em]; exact air, by rw [r2.length_eq]; exact few⟩ r2
/-- ADDING -/
theorem add_at (R : SetAtN w s.heap a L es ep t) {x : Addr} {k : NestedKey} (hx : KeyAt s.heap k x) (hu : A.units + 8 < cLine) (few : k ∉ ks L → L.length + 1 < 64) {Q : Bool → Shared → Prop}
    (fin : ∀ b h' L' es' ep' t', Heap.SameBut a s.heap h' → SetAtN w h' a L' es' ep' t' → (k ∈ ks L → L' = L) → (k ∉ ks L → L'.Perm ((x, k) :: L)) → Q b { s with heap := h' }) :
    wpAny (model P w) A (setAddHashed a (.ref x) (k.hash w)) Q E s := by
  obtain ⟨o, ho, hex, hd⟩ := R.obj
  have hz := size_of_rows R.row
  have air := R.air
  unfold setAddHashed
  refine wpAny_holding ?_
  rw [show (100000 : Nat) = 99999 + 1 from rfl, setAddHashedIn_succ]
  refine wpAny_bind (wpAny_setState_of ho hd R.fits ?_)
  dsimp only
  refine wp_if_neg (by simp [byScan, Value.scannable]) ?_
  try refine wpAny_bind (wpAny_pure ?_)
  refine wpAny_bind (find_at R hx hu (fun m => ?_) fun K m hK hb => ?_)
  · exact wpAny_pure (fin false s.heap L es ep t (Heap.SameBut.refl a s.heap) R (fun _ => rfl) fun z => absurd m z)
  · have few := few m
    dsimp only
    refine wpAny_bind (wpAny_setState_of ho hd R.fits ?_)
    dsimp only
    obtain ⟨q1, q2, q3, q4, q5, q6, q7, q8, q9⟩ := R.tab.put hK hb
    have pl1 : (t.put (way t.mask (k.hash w) K)).1.plain = true := by rw [q6]; exact R.pln
    generalize hput : t.put (way t.mask (k.hash w) K) = pt at q1 q3 q4 q5 q6 q7 q8 q9 pl1 ⊢
    obtain ⟨t1, j⟩ := pt
    dsimp only at q1 q3 q4 q5 q6 q7 q8 q9 pl1 ⊢
    subst q1
    first
      | (refine wpAny_bind (wp_if_pos pl1 (hx.byVal _ _ _ ?_)))
      | (refine wp_if_pos pl1 (wpAny_bind (hx.byVal _ _ _ ?_)))
    simp only [if_true]
    have row1 : (SetTable.insertAt es (SetTable.below t.place (way t.mask (k.hash w) K)) (k.hash w, Value.ref x)).toList = rows w (L.take (SetTable.below t.place (way t.mask (k.hash w) K)) ++ (x, k) :: L.drop (SetTable.below t.place (way t.mask (k.hash w) K))) := by
      rw [SetTable.toList_insertAt, R.row, rows, rows, List.map_append, List.map_cons, List.map_take, List.map_drop]
    generalize SetTable.below t.place (way t.mask (k.hash w) K) = j at q2 q3 row1 ⊢
    have pm : (L.take j ++ (x, k) :: L.drop j).Perm ((x, k) :: L) := L2.put_perm L j (x, k)
    have tab1 : TabOk t1 (hs w (L.take j ++ (x, k) :: L.drop j)) := by
      rw [hs, List.map_append, List.map_cons, List.map_take, List.map_drop]
      exact q3
    have nod1 : (ks (L.take j ++ (x, k) :: L.drop j)).Nodup := (ks_perm pm).nodup_iff.mpr (List.nodup_cons.mpr ⟨m, R.nod⟩)
    generalize SetTable.insertAt es j (k.hash w, Value.ref x) = es1 at row1 ⊢
    generalize L.take j ++ (x, k) :: L.drop j = L1 at pm tab1 nod1 row1
    have len1 : L1.length = L.length + 1 := pm.length_eq
    have z1 := size_of_rows row1
    refine wpAny_bind (wpAny_storeSet_of ho hd ?_ (by rw [z1, len1, sizeLine_eq]; omega))
    have sb : Heap.SameBut a s.heap (s.heap.update a (Obj.putSet es1 t1)) := Heap.SameBut.update ..
    have ho1 := store_at (es' := es1) (t' := t1) ho hd
    generalize s.heap.update a (Obj.putSet es1 t1) = h1 at sb ho1 ⊢
    have key1 : ∀ p ∈ L1, KeyAt h1 p.2 p.1 := fun p hp => by
      rcases List.mem_cons.mp (pm.mem_iff.mp hp) with z | z
      · rw [z]; exact hx.over ho hd sb
      · exact (R.key p z).over ho hd sb
    have led1 : w.params.followText "set-order" = true ∨ t1.led = true := by rw [q5]; exact R.led
    have fullness : t1.tooFull = decide ((L.length + 1) * 5 ≥ t1.mask * 3) := by
      unfold SetTable.tooFull
      rw [q9, hs, List.length_map]
    by_cases hf : t1.tooFull = true
    · first
        | (refine wpAny_bind (wp_if_pos (by simp [hf]) ?_))
        | (refine wp_if_pos (by simp [hf]) (wpAny_bind ?_))
      rw [fullness, decide_eq_true_eq, q4] at hf
      rw [hz]
      have two : (t.mask = 7 ∧ L.length = 4) ∨ (t.mask = 31 ∧ L.length = 18) := by
        rcases R.tab.mok with e | e | e
        · exact .inl ⟨e, by omega⟩
        · exact .inr ⟨e, by omega⟩
        · omega
      have go : ∀ M, SetTable.sizeAbove (SetTable.grown (L.length + 1)) - 1 = M → MaskOk M → SetTable.sizeAbove (SetTable.grown (L.length + 1)) ≤ 128 → (L.length + 1) * 5 < M * 3 →
          wpAny (model P w) A (setRelay a (SetTable.grown (L.length + 1))) (fun _ s' => wpAny (model P w) A (pure true) Q E s') E { s with heap := h1 } := fun M m1 m2 m3 m4 =>
        relay_at (s := { s with heap := h1 }) ho1 ⟨hex.1, hex.2.1, hex.2.2⟩ rfl row1 tab1 (by rw [q4, len1]; omega) nod1 key1 pl1 led1 (by omega) m1 m2 m3 (by rw [len1]; exact m4)
          fun h2 L2 es2 ep2 t2 sb2 R2 pm2 => wpAny_pure (fin true h2 L2 es2 ep2 t2 (sb.trans sb2) R2 (fun z => absurd z m) fun _ => pm2.trans pm)
      rcases two with ⟨_, e⟩ | ⟨_, e⟩
      · exact go 31 (by rw [e, size_20]) (.inr (.inl rfl)) (by rw [e, size_20]; decide) (by omega)
      · exact go 127 (by rw [e, size_76]) (.inr (.inr rfl)) (by rw [e, size_76]; decide) (by omega)
    · first
        | refine wp_if_neg (by simp [hf]) ?_
        | (refine wpAny_bind (wp_if_neg (by simp [hf]) (wpAny_pure ?_)))
      rw [fullness, decide_eq_true_eq] at hf
      exact wpAny_pure (fin true h1 L1 es1 (ep + 1) t1 sb ⟨⟨_, ho1, ⟨hex.1, hex.2.1, hex.2.2⟩, rfl⟩, row1, tab1, nod1, key1, pl1, led1, by rw [len1]; omega, by omega⟩ (fun z => absurd z m) fun _ => pm)
end
end DS
end

section
set_option Elab.async false
set_option linter.all false
set_option maxRecDepth 100000
set_option maxHeartbeats 4000000
/-! DS3: set(..) of a list or a tuple, by what the updating loop does -/
namespace DS
open PySem PySem.Spec PyProof.Rows L2
/-- a set just made -/
abbrev bare (w : World) : Obj := { cls := .type "set", dict := none, data := .set #[] 0 (.fresh 0 0 (!w.params.followText "set-order")) }
/-- what the loop over an iterator just made (at size + 1) leaves -/
def LoopDoes (P : Program) (w : World) (A : Around) (s : Shared) (o : Obj) (Fin : Heap → Nat → Prop) : Prop := ∀ (A' : Around) (R : Result → Shared → Prop), A'.handled = none → A'.units ≤ A.units + 2 →
  (∀ h' tk, Fin h' tk → R (.ok (.ret .none)) { s with heap := h', toks := tk }) → codeAny (model P w) A' (.builtin "set.update.loop" ⟨[.ref s.heap.objs.size, .ref (s.heap.objs.size + 1)], []⟩) R { s with heap := (s.heap.push (bare w)).push o }
section
variable {P : Program} {w : World} {A : Around} {E : Value → Shared → Prop} {s : Shared}
set_option maxHeartbeats 8000000 in
theorem set_by_loop {l : Addr} {T : String} {ol o : Obj} {items : Array Value} {n : Nat} {Z : Heap → Prop} {Fin : Heap → Nat → Prop} {Q : Value → Shared → Prop} (hh : A.handled = none) (ho : s.heap.get? l = some ol) (hc : ol.cls = .type T) (hd : ol.data = .seq items n)
    (ns : isSubtype (.type T) (.type "set") = pure false) (nf : isSubtype (.type T) (.type "frozenset") = pure false) (nd : (Value.type T == Value.type "dict") = false) (B : Begins (.ref l) o Z) (hz : Z s.heap) (loop : LoopDoes P w A s o Fin)
    (k : ∀ h' tk, Fin h' tk → Q (.ref s.heap.objs.size) { s with heap := h', toks := tk }) : wpAny (model P w) A (call (.type "set") [.ref l]) Q E s := by
  obtain ⟨c, tl, hmro⟩ := F.called_set.mro
  have made := F.called_set.made
  have sub := F.called_set.sub
  refine wpAny_call (codeAny_of_tree ?_)
  show wpAny _ _ (callAny (.type "set") _) _ _ _
  refine wpAny_pure ⟨Code.quiet_builtin _ (by decide +kernel), codeAny_builtin F.entry_type_call ?_⟩
  rw [Around.under_plain (weight_type_call_type "set" [.ref l] []) rfl]
  have n1 := F.called_set.notType
  have n2 := F.called_set.canCreate
  have ct := F.typeCall_set_1 (.ref l)
  repeat (any_goals (first | assumption | wp_step))
  refine codeAny_mono (code_set_led1 (.ref l) (E := E) (Q₁ := fun ob s1 => ob = .ref s.heap.objs.size ∧ s1 = { s with heap := s.heap.push (bare w) }) ⟨rfl, rfl⟩) fun r s1 hr => ?_
  cases r with
  | error e => exact hr
  | ok fl =>
    cases fl with
    | ret ob =>
      obtain ⟨rfl, rfl⟩ := hr
      have hT : Shared.TypeIs { s with heap := s.heap.push (bare w) } (.ref s.heap.objs.size) "set" := ⟨_, Heap.get?_push_size _ rfl, rfl⟩
      have li := F.called_set.init.lookup
      have bi := F.called_set.init.bind (.ref s.heap.objs.size)
      repeat (any_goals (first | assumption | wp_step))
      refine codeAny_mono (codeAny_call_builtin (R := wants (fun r s2 => r = .none ∧ ∃ h' tk, s2 = { s with heap := h', toks := tk } ∧ Fin h' tk) E) F.called_set.init.plain F.entry_set_init (check_set_init_1 hT ?_)) fun r2 s2 hr2 => ?_
      · obtain ⟨cls, dict, data, slots⟩ := ol
        have hc : cls = .type T := hc
        have hd : data = .seq items n := hd
        subst hc hd
        have ho' : (s.heap.push (bare w)).get? l = some { cls := .type T, dict := dict, data := .seq items n, slots := slots } := Heap.get?_push_of_some _ ho
        have itr : ∀ {A' : Around} {E' : Value → Shared → Prop} {Q' : Value → Shared → Prop}, Q' (.ref (s.heap.push (bare w)).objs.size) { s with heap := (s.heap.push (bare w)).push o } → wpAny (model P w) A' (pyIter (.ref l)) Q' E' { s with heap := s.heap.push (bare w) } :=
          fun q => B.iter P w _ _ { s with heap := s.heap.push (bare w) } _ (B.keeps _ _ hz fun _ _ e => Heap.get?_push_of_some _ e) q
        unfold Builtin.«set.__init__» noKeywords Builtin.Frozenset.updateFrom
        generalize hPI : pyIter = PI at itr
        wp_walk
        subst hPI
        refine itr ?_
        refine wpAny_bind (wpAny_runValue ?_)
        rw [Heap.size_push]
        refine loop _ _ (by simp [hh]) (by simp only [Around.in1_units]; omega) fun h' tk f => ?_
        show wpAny _ _ _ _ _ _
        refine wpAny_pure ?_
        show wpAny _ _ (ret Value.none) _ _ _
        exact wpAny_pure ⟨rfl, h', tk, rfl, f⟩
      · cases r2 with
        | error e => exact hr2
        | ok fl2 =>
          cases fl2 with
          | ret r =>
            obtain ⟨rfl, h', tk, rfl, f⟩ := hr2
            repeat (any_goals (first | assumption | wp_step))
            exact k _ _ f
          | _ => exact hr2.elim
    | _ => exact hr.elim
end
end DS
end

section
set_option Elab.async false
set_option linter.all false
set_option maxRecDepth 100000
set_option maxHeartbeats 4000000
/-! DS4: the updating loop over nested tuples; set(..), sorted(set(..)) of these -/
namespace DS
open PySem PySem.Spec PyProof.Rows L2
/-- what is in the set after the keys kv -/
structure Holds (kv : List (Addr × NestedKey)) (i : Nat) (L : List (Addr × NestedKey)) : Prop where
  sub : ∀ p ∈ L, p ∈ kv
  all : ∀ p ∈ kv.take i, p.2 ∈ ks L
theorem Holds.stay {kv L : List (Addr × NestedKey)} {i : Nat} {p : Addr × NestedKey} (g : Holds kv i L) (hp : kv[i]? = some p) (hm : p.2 ∈ ks L) : Holds kv (i + 1) L := ⟨g.sub, fun q hq => by
  rw [List.take_add_one, hp] at hq
  rcases List.mem_append.mp hq with z | z
  · exact g.all q z
  · have z : q = p := by simpa using z
    rw [z]; exact hm⟩
theorem Holds.grow {kv L L' : List (Addr × NestedKey)} {i : Nat} {p : Addr × NestedKey} (g : Holds kv i L) (hp : kv[i]? = some p) (pm : L'.Perm (p :: L)) : Holds kv (i + 1) L' := by
  refine ⟨fun q hq => ?_, fun q hq => ?_⟩
  · rcases List.mem_cons.mp (pm.mem_iff.mp hq) with z | z
    · rw [z]; exact List.mem_of_getElem? hp
    · exact g.sub q z
  · refine (ks_perm pm).mem_iff.mpr ?_
    rw [List.take_add_one, hp] at hq
    rcases List.mem_append.mp hq with z | z
    · exact List.mem_cons_of_mem _ (g.all q z)
    · have z : q = p := by simpa using z
      rw [z]; exact List.mem_cons_self
/-- fewer than 64 keys that differ -/
def FewK (kv : List (Addr × NestedKey)) : Prop := ∀ l : List NestedKey, l.Nodup → (∀ k ∈ l, k ∈ ks kv) → l.length < 64
section
variable {P : Program} {w : World} {A : Around} {E : Value → Shared → Prop} {s : Shared}
theorem SetAtN.keep {h h' : Heap} {a : Addr} {L : List (Addr × NestedKey)} {es : Array (Int × Value)} {ep : Nat} {t : SetTable} (R : SetAtN w h a L es ep t) (ha : ∀ o, h.get? a = some o → h'.get? a = some o) (key : ∀ p ∈ L, KeyAt h' p.2 p.1) : SetAtN w h' a L es ep t := by
  obtain ⟨o, ho, r⟩ := R.obj
  exact ⟨⟨o, ha o ho, r⟩, R.row, R.tab, R.nod, key, R.pln, R.led, R.air, R.few⟩
theorem bareN {h : Heap} {a : Addr} (ho : h.get? a = some (bare w)) : SetAtN w h a [] #[] 0 (.fresh 0 0 (!w.params.followText "set-order")) where
  obj := ⟨_, ho, ⟨rfl, rfl, rfl⟩, rfl⟩
  row := rfl
  tab := ⟨List.Pairwise.nil, rfl, rfl, .inl rfl, fun x hx => (by cases hx), fun i h j hi => (by simp [hs] at hi)⟩
  nod := List.nodup_nil
  key := fun p hp => (by cases hp)
  pln := rfl
  led := by
    show _ ∨ (!w.params.followText "set-order") = true
    cases w.params.followText "set-order"
    · exact .inr rfl
    · exact .inl rfl
  air := by show 0 * 5 < 7 * 3; decide
  few := by show 0 < 64; decide
/-- the loop -/
theorem loop_keys {I : Addr} {fp wr : List Addr} {G : Array GenState → Array GenState → Prop} {n : Nat} {Pv : Nat → Value → Prop} {St : Nat → Shared → Prop} {R : Result → Shared → Prop} (W : WalksS P w A.in1 I fp wr G n Pv St) (S : Addr) (hSf : S ∉ fp)
    (kv : List (Addr × NestedKey)) (hn : n = kv.length) (hval : ∀ i v, Pv i v → ∃ p, kv[i]? = some p ∧ v = .ref p.1) (h0 : Heap) (hk : ∀ p ∈ kv, KeyAt h0 p.2 p.1) (hS0 : h0.get? S = none) (hw0 : ∀ b ∈ wr, h0.get? b = none) (hu : A.in1.units + 8 < cLine) (few : FewK kv) :
    ∀ (left i : Nat) (s : Shared), n - i = left → i ≤ n → St i s → (∀ b o, h0.get? b = some o → s.heap.get? b = some o) → (∃ L es ep t, SetAtN w s.heap S L es ep t ∧ Holds kv i L) →
      (∀ s' L es ep t, Moved (S :: wr) G s s' → SetAtN w s'.heap S L es ep t → Holds kv n L → (∀ b o, h0.get? b = some o → s'.heap.get? b = some o) → R (.ok (.ret .none)) s') →
      codeAny (model P w) A (.builtin "set.update.loop" ⟨[.ref S, .ref I], []⟩) R s := by
  have hSw : S ∉ wr := fun h => hSf (W.sub _ h)
  have more : ∀ b ∈ wr, b ∈ S :: wr := fun b hb => List.mem_cons_of_mem _ hb
  have kept : ∀ {s s' : Shared}, Moved wr G s s' → (∀ b o, h0.get? b = some o → s.heap.get? b = some o) → ∀ b o, h0.get? b = some o → s'.heap.get? b = some o := fun hm hkp b o e => hm.heap b o (fun hb => by rw [hw0 b hb] at e; cases e) (hkp b o e)
  intro left
  induction left with
  | zero =>
    intro i s hl hi st hkp ⟨L, es, ep, t, hS, g⟩ fin
    obtain rfl : i = n := by omega
    refine codeAny_builtin F.entry_set_update_loop ?_
    rw [Around.under_plainId F.plain_set_update_loop _]
    show wpAny _ A.in1 (pyNext (.ref I) >>= _) _ _ s
    refine wpAny_bind (W.done s _ _ st fun s' hm => ?_)
    show wpAny _ A.in1 (ret Value.none) _ _ s'
    have hkp' := kept hm hkp
    exact wpAny_pure (fin s' L es ep t (hm.mono more) (hS.keep (fun o e => hm.heap S o hSw e) fun p hp => (hk p (g.sub p hp)).keep hkp') g hkp')
  | succ left ih =>
    intro i s hl hi st hkp ⟨L, es, ep, t, hS, g⟩ fin
    have il : i < n := by omega
    refine codeAny_builtin F.entry_set_update_loop ?_
    rw [Around.under_plainId F.plain_set_update_loop _]
    show wpAny _ A.in1 (pyNext (.ref I) >>= _) _ _ s
    refine wpAny_bind (W.item i s _ _ il st fun v s' hP st' hm => ?_)
    obtain ⟨p, hp, rfl⟩ := hval i v hP
    have hkp' := kept hm hkp
    have hS' : SetAtN w s'.heap S L es ep t := hS.keep (fun o e => hm.heap S o hSw e) fun q hq => (hk q (g.sub q hq)).keep hkp'
    have hx : KeyAt s'.heap p.2 p.1 := (hk p (List.mem_of_getElem? hp)).keep hkp'
    have few' : p.2 ∉ ks L → L.length + 1 < 64 := fun hm => by
      have := few (p.2 :: ks L) (List.nodup_cons.mpr ⟨hm, hS.nod⟩) fun k hk' => by
        rcases List.mem_cons.mp hk' with z | z
        · rw [z]; exact List.mem_map.mpr ⟨p, List.mem_of_getElem? hp, rfl⟩
        · obtain ⟨q, hq, e⟩ := List.mem_map.mp z
          exact List.mem_map.mpr ⟨q, g.sub q hq, e⟩
      rwa [List.length_cons, ks, List.length_map] at this
    show wpAny _ A.in1 (holding [Value.ref p.1] (setAdd S (.ref p.1)) >>= _) _ _ s'
    refine wpAny_bind (wpAny_holding ?_)
    unfold setAdd
    refine wpAny_holding (wpAny_bind ((nestedKind P w).pyHash hu hx.kind ?_))
    refine add_at (s := { s' with toks := s'.toks + p.2.draws }) hS' hx hu few' fun b h' L' es' ep' t' sb hS2 c1 c2 => ?_
    have g' : Holds kv (i + 1) L' := by
      by_cases c : p.2 ∈ ks L
      · rw [c1 c]; exact g.stay hp c
      · exact g.grow hp (c2 c)
    have hkp2 : ∀ b o, h0.get? b = some o → h'.get? b = some o := fun b o e => (sb.2 b fun z => by rw [z, hS0] at e; cases e).trans (hkp' b o e)
    refine wpAny_pure ⟨plainId_quiet F.plain_set_update_loop _, ih (i + 1) _ (by omega) il (W.frame _ s' _ _ st' (Nat.le_add_right _ _) fun b hb o e => ?_) hkp2 ⟨L', es', ep', t', hS2, g'⟩ fun s'' L2 es2 ep2 t2 hm2 hS3 g2 hkp3 => ?_⟩
    · exact (sb.2 b fun z => hSf (by rw [← z]; exact hb)).trans e
    · exact fin s'' L2 es2 ep2 t2 (Moved.trans W.gtrans ((hm.mono more).then_heap (Nat.le_add_right _ _) fun b o hb e => (sb.2 b fun z => hb (by rw [z]; exact List.mem_cons_self)).trans e) hm2) hS3 g2 hkp3
/-- what stands behind set(xs) -/
def Fin (w : World) (s : Shared) (kv : List (Addr × NestedKey)) : Heap → Nat → Prop := fun h' _ => (∃ L es ep t, SetAtN w h' s.heap.objs.size L es ep t ∧ Holds kv kv.length L) ∧ ∀ b o, s.heap.get? b = some o → h'.get? b = some o
theorem none_new {h : Heap} {b : Addr} (hb : h.objs.size ≤ b) : h.get? b = none := by
  cases q : h.get? b with
  | none => rfl
  | some o => exact absurd (Heap.lt_size q) (Nat.not_lt.mpr hb)
theorem loop_of {fp : List Addr} {o : Obj} {kv : List (Addr × NestedKey)} {Pv : Nat → Value → Prop} {St : Nat → Shared → Prop} (W : ∀ A' : Around, A'.handled = none → WalksS P w A' (s.heap.objs.size + 1) fp [s.heap.objs.size + 1] (fun g g' => g' = g) kv.length Pv St)
    (hSf : s.heap.objs.size ∉ fp) (hval : ∀ i v, Pv i v → ∃ p, kv[i]? = some p ∧ v = .ref p.1) (hk : ∀ p ∈ kv, KeyAt s.heap p.2 p.1) (hu : A.units + 11 < cLine) (few : FewK kv) (st : St 0 { s with heap := (s.heap.push (bare w)).push o }) : LoopDoes P w A s o (Fin w s kv) := by
  intro A' R ha hu' fin
  have hS : ((s.heap.push (bare w)).push o).get? s.heap.objs.size = some (bare w) := Heap.get?_push_of_some _ (Heap.get?_push_size _ rfl)
  refine loop_keys (W A'.in1 (by simp [ha])) s.heap.objs.size hSf kv rfl hval s.heap hk (none_new (Nat.le_refl _)) (fun b hb => none_new (by rw [List.mem_singleton.mp hb]; omega)) (by simp only [Around.in1_units]; omega) few (kv.length - 0) 0 _ rfl (Nat.zero_le _) st
    (fun b u e => Heap.get?_push_of_some _ (Heap.get?_push_of_some _ e)) ⟨[], #[], 0, _, bareN hS, ⟨fun p hp => (by cases hp), fun p hp => (by simp at hp)⟩⟩ fun s' L es ep t hm hS' g hkp => ?_
  obtain ⟨h', g2, d', tk', os'⟩ := s'
  have eg : g2 = s.gens := hm.gens
  have ed : d' = s.drawn := hm.drawn
  have eo : os' = s.os := hm.os
  subst eg ed eo
  exact fin h' tk' ⟨⟨L, es, ep, t, hS', g⟩, hkp⟩
theorem set_list {l : Addr} {items : Array Value} {kv : List (Addr × NestedKey)} {Q : Value → Shared → Prop} (hh : A.handled = none) (hl : s.heap.IsList l items) (it : items.toList = kv.map fun p => Value.ref p.1) (hk : ∀ p ∈ kv, KeyAt s.heap p.2 p.1) (hu : A.units + 11 < cLine) (few : FewK kv)
    (k : ∀ h' tk, Fin w s kv h' tk → Q (.ref s.heap.objs.size) { s with heap := h', toks := tk }) : wpAny (model P w) A (call (.type "set") [.ref l]) Q E s := by
  obtain ⟨ol, ho, hc, n, hd⟩ := id hl
  have ln := Heap.lt_size ho
  have sz : items.size = kv.length := by
    have := congrArg List.length it
    rwa [Array.length_toList, List.length_map] at this
  have z1 : (s.heap.push (bare w)).objs.size = s.heap.objs.size + 1 := Heap.size_push ..
  have hI : ((s.heap.push (bare w)).push { cls := .type "list_iterator", data := .fields #[.ref l, .int 0 0] }).get? (s.heap.objs.size + 1) = some { cls := .type "list_iterator", data := .fields #[.ref l, .int 0 0] } := by
    rw [← z1]
    exact Heap.get?_push_size _ rfl
  have hl2 := ((hl.push (bare w)).push { cls := .type "list_iterator", data := .fields #[.ref l, .int 0 0] })
  have pick : ∀ (i : Nat) (v : Value), items[i]? = some v → ∃ p, kv[i]? = some p ∧ v = .ref p.1 := fun i v hv => by
    have q : items.toList[i]? = some v := by rw [Array.getElem?_toList]; exact hv
    rw [it, List.getElem?_map] at q
    cases e : kv[i]? with
    | none => rw [e] at q; cases q
    | some p => rw [e] at q; exact ⟨p, rfl, (Option.some.inj q).symm⟩
  have Wk := fun (A' : Around) (ha : A'.handled = none) => (Walks.list (prog := P) (w := w) ha (s.heap.objs.size + 1) l (Nat.ne_of_lt (Nat.lt_succ_of_lt ln)) items).toS
  rw [sz] at Wk
  refine set_by_loop hh ho hc hd F.sub_list_set F.sub_list_frozenset (by decide) (begins_list l items) hl (loop_of Wk (by simp only [List.mem_cons, List.not_mem_nil, or_false, not_or]; exact ⟨Nat.ne_of_lt (Nat.lt_succ_self _), Nat.ne_of_gt ln⟩) pick hk hu few ⟨⟨_, hI, rfl, rfl⟩, hl2⟩) k
theorem set_tuple {l : Addr} {items : Array Value} {kv : List (Addr × NestedKey)} {Q : Value → Shared → Prop} (hh : A.handled = none) (hl : s.heap.IsTuple l items) (it : items.toList = kv.map fun p => Value.ref p.1) (hk : ∀ p ∈ kv, KeyAt s.heap p.2 p.1) (hu : A.units + 11 < cLine) (few : FewK kv)
    (k : ∀ h' tk, Fin w s kv h' tk → Q (.ref s.heap.objs.size) { s with heap := h', toks := tk }) : wpAny (model P w) A (call (.type "set") [.ref l]) Q E s := by
  obtain ⟨ol, ho, hc, n, hd⟩ := id hl
  have ln := Heap.lt_size ho
  have sz : items.size = kv.length := by
    have := congrArg List.length it
    rwa [Array.length_toList, List.length_map] at this
  have z1 : (s.heap.push (bare w)).objs.size = s.heap.objs.size + 1 := Heap.size_push ..
  have hI : ((s.heap.push (bare w)).push { cls := .type "tuple_iterator", data := .fields #[.ref l, .int 0 0] }).get? (s.heap.objs.size + 1) = some { cls := .type "tuple_iterator", data := .fields #[.ref l, .int 0 0] } := by
    rw [← z1]
    exact Heap.get?_push_size _ rfl
  have hl2 := ((hl.push (bare w)).push { cls := .type "tuple_iterator", data := .fields #[.ref l, .int 0 0] })
  have pick : ∀ (i : Nat) (v : Value), items[i]? = some v → ∃ p, kv[i]? = some p ∧ v = .ref p.1 := fun i v hv => by
    have q : items.toList[i]? = some v := by rw [Array.getElem?_toList]; exact hv
    rw [it, List.getElem?_map] at q
    cases e : kv[i]? with
    | none => rw [e] at q; cases q
    | some p => rw [e] at q; exact ⟨p, rfl, (Option.some.inj q).symm⟩
  have Wk := fun (A' : Around) (ha : A'.handled = none) => (Walks.tuple (prog := P) (w := w) ha (s.heap.objs.size + 1) l (Nat.ne_of_lt (Nat.lt_succ_of_lt ln)) items).toS
  rw [sz] at Wk
  refine set_by_loop hh ho hc hd F.sub_tuple_set F.sub_tuple_frozenset (by decide) (begins_tuple l items) hl (loop_of Wk (by simp only [List.mem_cons, List.not_mem_nil, or_false, not_or]; exact ⟨Nat.ne_of_lt (Nat.lt_succ_self _), Nat.ne_of_gt ln⟩) pick hk hu few ⟨⟨_, hI, rfl, rfl⟩, hl2⟩) k
end
end DS
end

section
set_option Elab.async false
set_option linter.all false
set_option maxRecDepth 100000
set_option maxHeartbeats 4000000
/-! DS5: sorted(set) of nested tuples; the two as rules of the hand layer -/
namespace DS
open PySem PySem.Spec PyProof.Rows L2 DL
theorem perm_pre {α β : Type} {f : α → β} {us vs : List β} (h : us.Perm vs) : ∀ L : List α, vs = L.map f → ∃ L1 : List α, L1.Perm L ∧ us = L1.map f := by
  induction h with
  | nil => intro L e; exact ⟨[], by rw [List.map_eq_nil_iff.mp e.symm], rfl⟩
  | cons x p ih =>
    intro L e
    cases L with
    | nil => cases e
    | cons y L =>
      rw [List.map_cons] at e
      obtain ⟨e1, e2⟩ := List.cons.inj e
      obtain ⟨L1, h1, h2⟩ := ih L e2
      exact ⟨y :: L1, h1.cons y, by rw [List.map_cons, e1, h2]⟩
  | swap x y l =>
    intro L e
    cases L with
    | nil => cases e
    | cons a L =>
      cases L with
      | nil => simp at e
      | cons b L =>
        rw [List.map_cons, List.map_cons] at e
        obtain ⟨e1, e2⟩ := List.cons.inj e
        obtain ⟨e2, e3⟩ := List.cons.inj e2
        exact ⟨b :: a :: L, List.Perm.swap _ _ _, by rw [List.map_cons, List.map_cons, e1, e2, e3]⟩
  | trans p q ih1 ih2 =>
    intro L e
    obtain ⟨L2, h1, h2⟩ := ih2 L e
    obtain ⟨L1, h3, h4⟩ := ih1 L2 h2
    exact ⟨L1, h3.trans h1, h4⟩
theorem each_refs {α : Type} {f : α → Value} {R : Value → α → Prop} : ∀ L : List α, (∀ p ∈ L, R (f p) p) → PySem.W.EachIs R (L.map f) L
  | [], _ => .nil
  | p :: L, h => .cons (h p List.mem_cons_self) (each_refs L fun q hq => h q (List.mem_cons_of_mem _ hq))
theorem eq_of_each {α : Type} {f : α → Value} : ∀ {us : List Value} {L : List α}, PySem.W.EachIs (fun u p => u = f p) us L → us = L.map f
  | _, _, .nil => rfl
  | _, _, .cons r t => by rw [List.map_cons, ← r, ← eq_of_each t]
section
variable {P : Program} {w : World} {A : Around} {E : Value → Shared → Prop} {s : Shared}
theorem sorted_set {a : Addr} {L : List (Addr × NestedKey)} {es : Array (Int × Value)} {ep : Nat} {t : SetTable} {dat : Addr × NestedKey → PyData} {Q : Value → Shared → Prop} (R : SetAtN w s.heap a L es ep t) (hh : A.handled = none) (hu : A.units + 200 < cLine)
    (hr : ∀ p ∈ L, ∃ as, Reads s.heap (.ref p.1) (dat p) as) (hk : okSort (L.map dat) = true)
    (fin : ∀ (s' : Shared) (b : Addr) (c : Nat) (L1 : List (Addr × NestedKey)), (∀ x o, s.heap.get? x = some o → s'.heap.get? x = some o) → s'.gens = s.gens → s'.os = s.os → s.heap.objs.size ≤ b → L1.Perm L → s'.heap.get? b = some (seqObj "list" ((L1.mergeSort (leP dat)).map fun q => Value.ref q.1).toArray c) → Q (.ref b) s') :
    wpAny (model P w) A (call (.builtin "sorted") [.ref a]) Q E s := by
  obtain ⟨o, ho, hex, hd⟩ := R.obj
  have hz := size_of_rows R.row
  have few := R.few
  obtain ⟨k1, k2, k3⟩ := okSort_of hk
  refine Calls.call_function_entry kind_sorted plain_sorted entry_sorted (args_sorted1 _) ?_
  unfold Builtin.«sorted»
  refine wpAny_bind (m := checkCount "sorted" 1 1 _) (wpAny_pure ?_)
  refine wpAny_bind (collect_set (A := A.in1) hh ⟨o, ho, hex.1, hd⟩ R.fits (by unfold scanBound; omega) R.tab.ris R.led fun s1 vs kp sz g1 o1 pm => ?_)
  have er : es.toList.map (·.2) = L.map fun q => Value.ref q.1 := by
    rw [R.row, rows, List.map_map]
    rfl
  rw [er] at pm
  obtain ⟨L1, p1, rfl⟩ := perm_pre pm L rfl
  have ll : (L1.map fun q : Addr × NestedKey => Value.ref q.1).length < 64 := by rw [List.length_map, p1.length_eq]; exact few
  refine wpAny_bind (wpAny_newList ?_ (by rw [sizeLine_eq]; omega))
  have hoL : (s1.heap.push (seqObj "list" (L1.map fun q : Addr × NestedKey => Value.ref q.1).toArray 0)).get? s1.heap.objs.size = some (seqObj "list" (L1.map fun q : Addr × NestedKey => Value.ref q.1).toArray 0) := Heap.get?_push_size _ rfl
  have old : ∀ x u, s.heap.get? x = some u → (PySem.W.sortingHeap (s1.heap.push (seqObj "list" (L1.map fun q : Addr × NestedKey => Value.ref q.1).toArray 0)) s1.heap.objs.size (L1.map fun q : Addr × NestedKey => Value.ref q.1)).get? x = some u := fun x u e =>
    PySem.W.sortingHeap_old (Nat.ne_of_lt (Heap.lt_size (kp x u e))) (Heap.get?_push_of_some _ (kp x u e))
  have eachR := each_refs (f := fun q : Addr × NestedKey => Value.ref q.1) (R := fun u p => ∃ as, Reads (PySem.W.sortingHeap (s1.heap.push (seqObj "list" (L1.map fun q : Addr × NestedKey => Value.ref q.1).toArray 0)) s1.heap.objs.size (L1.map fun q : Addr × NestedKey => Value.ref q.1)) u (dat p) as) L1 fun p hp => by
    obtain ⟨as, q⟩ := hr p (p1.mem_iff.mp hp)
    exact ⟨as, Reads.keeps old q⟩
  have inL : ∀ d, d ∈ L1.map dat → d ∈ L.map dat := fun d hd => (p1.map dat).mem_iff.mp hd
  have al : PySem.W.AllAlike (L1.map dat) := fun d h1 d' h2 => k1 d (inL d h1) d' (inL d' h2)
  have so : PySem.W.Sortable (L1.map dat) := by
    rcases k2 with k2 | k2
    · exact .inl fun d hd => k2 d (inL d hd)
    · exact .inr fun d hd => k2 d (inL d hd)
  have S : PySem.W.SortsAt P w A.in1.in1 { s1 with heap := PySem.W.sortingHeap (s1.heap.push (seqObj "list" (L1.map fun q : Addr × NestedKey => Value.ref q.1).toArray 0)) s1.heap.objs.size (L1.map fun q : Addr × NestedKey => Value.ref q.1) } _ (L1.map fun q : Addr × NestedKey => Value.ref q.1) :=
    PySem.W.SortsAt.data (DL.each_snd (R := fun u d => ∃ as, Reads _ u d as) (f := dat) eachR) al so fun d hd => by
      have := k3 d (inL d hd)
      simp only [Around.in1_units]
      omega
  have ev := PySem.W.sortVals_each (rev := false) (R := fun u (p : Addr × NestedKey) => u = Value.ref p.1) (fun p : Addr × NestedKey => PySem.W.keyToks (dat p)) (each_refs (f := fun q : Addr × NestedKey => Value.ref q.1) L1 fun p _ => rfl)
    (κ := PySem.W.dataKind (PySem.W.sortingHeap (s1.heap.push (seqObj "list" (L1.map fun q : Addr × NestedKey => Value.ref q.1).toArray 0)) s1.heap.objs.size (L1.map fun q : Addr × NestedKey => Value.ref q.1)) (L1.map dat)) (DL.each_mem eachR fun u p hp ⟨as, q⟩ => PySem.W.dataKind_some al (List.mem_map.mpr ⟨p, hp, rfl⟩) q)
  have ev := eq_of_each ev
  refine wpAny_bind (wpAny_holding (wpAny_call_entry slot_list_sort ⟨_, hoL, rfl⟩ entry_list_sort (PySem.W.list_sort_vals (s := { s1 with heap := s1.heap.push (seqObj "list" (L1.map fun q : Addr × NestedKey => Value.ref q.1).toArray 0) }) hoL S (by rw [sizeLine_eq]; omega) ⟨_, rfl, ?_⟩) (args_list_sort _)))
  rw [ev]
  obtain ⟨c, hc⟩ := sortedHeap_at (vs := L1.map fun q : Addr × NestedKey => Value.ref q.1) (out := ((L1.mergeSort (leP dat)).map fun q : Addr × NestedKey => Value.ref q.1).toArray) hoL
  refine wpAny_pure ⟨_, rfl, fin _ s1.heap.objs.size c L1 (fun x u e => ?_) g1 o1 sz p1 hc⟩
  have lt := Heap.lt_size (kp x u e)
  exact sortedHeap_old (Nat.ne_of_lt lt) (by rw [size_push']; exact Nat.lt_succ_of_lt lt) |>.trans (Heap.get?_push_of_some _ (kp x u e))
end
end DS
end

section
set_option Elab.async false
set_option linter.all false
set_option maxRecDepth 100000
set_option maxHeartbeats 4000000
/-! DT: set(..) and sorted(..) of it, over data -/
namespace DS
open PySem PySem.Spec PyProof.Rows L2
mutual
theorem is_of_reads {h : Heap} : ∀ (k : NestedKey) (v : Value) (as : List Addr), numK k = true → Reads h v k.data as → NestedIs h k v
  | .none, _, _, z, _ => by simp [numK] at z
  | .text y, _, _, z, _ => by simp [numK] at z
  | .num i, _, _, _, r => by
    rw [NestedKey.data] at r
    cases r with
    | int _ t => exact .int i t
  | .tup ks, _, _, z, r => by
    rw [numK] at z
    rw [NestedKey.data] at r
    cases r with
    | tuple h1 h2 h3 h4 => exact .tup h1 h2 h3 (is_of_readsAll ks _ _ z h4)
theorem is_of_readsAll {h : Heap} : ∀ (ks : List NestedKey) (vs : List Value) (as : List Addr), numKs ks = true → ReadsAll h vs (NestedKey.datas ks) as → NestedAll h ks vs
  | [], _, _, _, r => by
    rw [NestedKey.datas] at r
    cases r
    exact .nil
  | k :: ks, _, _, z, r => by
    rw [numKs, Bool.and_eq_true] at z
    rw [NestedKey.datas] at r
    cases r with
    | cons r1 r2 => exact .cons (is_of_reads k _ _ z.1 r1) (is_of_readsAll ks _ _ z.2 r2)
end
/-- the set at a, without its tuples -/
structure Set0 (w : World) (h : Heap) (a : Addr) (L : List (Addr × NestedKey)) : Prop where
  ex : ∃ (es : Array (Int × Value)) (ep : Nat) (t : SetTable), (∃ o, h.get? a = some o ∧ o.ExactSet ∧ o.data = .set es ep t) ∧ es.toList = rows w L ∧ TabOk t (hs w L) ∧ (ks L).Nodup ∧ t.plain = true ∧
    (w.params.followText "set-order" = true ∨ t.led = true) ∧ L.length * 5 < t.mask * 3 ∧ L.length < 64
def SetNO (w : World) (a : Addr) (L : List (Addr × NestedKey)) : HO := .ext fun h => Set0 w h a L
theorem SetAtN.less {w : World} {h : Heap} {a : Addr} {L : List (Addr × NestedKey)} {es : Array (Int × Value)} {ep : Nat} {t : SetTable} (R : SetAtN w h a L es ep t) : Set0 w h a L := ⟨es, ep, t, R.obj, R.row, R.tab, R.nod, R.pln, R.led, R.air, R.few⟩
theorem Set0.full {w : World} {h : Heap} {a : Addr} {L : List (Addr × NestedKey)} (R : Set0 w h a L) (key : ∀ p ∈ L, KeyAt h p.2 p.1) : ∃ es ep t, SetAtN w h a L es ep t := by
  obtain ⟨es, ep, t, h1, h2, h3, h4, h5, h6, h7, h8⟩ := R.ex
  exact ⟨es, ep, t, h1, h2, h3, h4, key, h5, h6, h7, h8⟩
theorem setNO_ok {P : Program} {w : World} {H : Hp} {h : Heap} {a : Addr} {L : List (Addr × NestedKey)} (R : Set0 w h a L) : ObjOk P w H h a (SetNO w a L) := by
  obtain ⟨_, _, _, ⟨o, ho, _⟩, _⟩ := id R.ex
  refine ⟨R, ⟨o, ho⟩, fun h1 h2 p k => ?_⟩
  obtain ⟨es, ep, t, ⟨o, ho, r⟩, q⟩ := Set0.ex p
  exact ⟨es, ep, t, ⟨o, k o ho, r⟩, q⟩
/-- the tuple at b is the key k -/
def KeyV (K : PySem.W.Frag) (H : Hp) (b : Addr) (k : NestedKey) : Prop := Dp K H (.ref b) k.data ∧ numK k = true ∧ k.depth ≤ 8
section
variable {X : Cx}
theorem KeyV.at {pins : List (Addr × Obj)} {σ : L2.St} {H : Hp} {s : Shared} {b : Addr} {k : NestedKey} (I : Inv X pins σ H s) (x : KeyV X.K H b k) : KeyAt s.heap k b := by
  obtain ⟨as, r⟩ := Dp.reads I k.data (.ref b) (.ref b) x.1 rfl
  exact ⟨is_of_reads k _ as x.2.1 r, x.2.2, x.2.1⟩
theorem vals_refs {kv : List (Addr × NestedKey)} : ∀ {us : List Value}, Vals (kv.map fun p => V.ref p.1) us → us = kv.map fun p => Value.ref p.1 := by
  induction kv with
  | nil => intro us h; cases h; rfl
  | cons p kv ih =>
    intro us h
    cases h with
    | cons r t => rw [List.map_cons, ← ih t, show _ = Value.ref p.1 from r]
theorem refs_vals : ∀ kv : List (Addr × NestedKey), Vals (kv.map fun p => V.ref p.1) (kv.map fun p => Value.ref p.1)
  | [] => .nil
  | p :: kv => .cons rfl (refs_vals kv)
/-- set(xs) -/
def rSetN (K : PySem.W.Frag) (w : World) : List V → Hp → VK → Prop := fun xs H Q => ∃ (l : Addr) (kv : List (Addr × NestedKey)), xs = [.ref l] ∧ (SqL K H l (kv.map fun p => V.ref p.1) ∨ SqT K H l (kv.map fun p => V.ref p.1)) ∧ (∀ p ∈ kv, KeyV K H p.1 p.2) ∧ FewK kv ∧
  ∀ a L, H a = none → (∀ p ∈ L, p ∈ kv) → (∀ p ∈ kv, p.2 ∈ ks L) → (ks L).Nodup → Q (.ref a) (upd H a (SetNO w a L))
theorem cr_setN (hc : X.calm = true) (hu : X.A.units + 200 < cLine) : CallR X (.type "set") (rSetN X.K X.w) := by
  intro pins s σ H xs us Q I r ⟨l, kv, ex, hl, hk, few, q⟩
  subst ex
  rw [Vals.ref1 r]
  have fin : ∀ h' tk, Fin X.w s kv h' tk → EP X pins σ Q (.ref s.heap.objs.size) { s with heap := h', toks := tk } := fun h' tk ⟨⟨L, es, ep, t, R, g⟩, k⟩ =>
    ⟨.ref s.heap.objs.size, _, I.laid (t' := tk) k (Nat.le_refl _) (setNO_ok R.less), rfl, q _ L (I.hok.fresh (Nat.le_refl _)) g.sub (fun p hp => g.all p (by rw [List.take_length]; exact hp)) R.nod⟩
  rcases hl with hl | hl
  · obtain ⟨its, rv, pl, _⟩ := I.list hl
    exact set_list (I.ok.hd hc) pl.isList (by rw [vals_refs rv]) (fun p hp => (hk p hp).at I) (by omega) few fin
  · obtain ⟨its, rv, pt, _⟩ := I.tuple hl
    exact set_tuple (I.ok.hd hc) (show s.heap.IsTuple l its.toArray from pt) (by rw [vals_refs rv]) (fun p hp => (hk p hp).at I) (by omega) few fin
/-- sorted(set) -/
def rSortN (K : PySem.W.Frag) (w : World) : List V → Hp → VK → Prop := fun vs H Q => ∃ (a : Addr) (L : List (Addr × NestedKey)), vs = [.ref a] ∧ H a = some (SetNO w a L) ∧ (∀ p ∈ L, KeyV K H p.1 p.2) ∧ DL.okSort (L.map fun p => p.2.data) = true ∧
  ∀ (L1 : List (Addr × NestedKey)) (b : Addr), L1.Perm L → H b = none → Q (.ref b) (upd H b (.lst ((L1.mergeSort (DL.leP fun p => p.2.data)).map fun p => V.ref p.1)))
theorem cr_sortN (hc : X.calm = true) (hu : X.A.units + 200 < cLine) : CallR X (.builtin "sorted") (rSortN X.K X.w) := by
  intro pins s σ H vs us Q I r ⟨a, L, ev, ha, hk, ok, q⟩
  subst ev
  rw [Vals.ref1 r]
  obtain ⟨es, ep, t, R⟩ := Set0.full (show Set0 X.w s.heap a L from (I.hok a _ ha).1) fun p hp => (hk p hp).at I
  refine sorted_set (dat := fun p => p.2.data) R (I.ok.hd hc) hu (fun p hp => Dp.reads I p.2.data (.ref p.1) (.ref p.1) (hk p hp).1 rfl) ok fun s' b c L1 k g o sz pm hb => ?_
  have hn : H b = none := I.hok.fresh sz
  have hl : ((L1.mergeSort (DL.leP fun p => p.2.data)).map fun p : Addr × NestedKey => V.ref p.1).length ≤ sizeLine := by
    rw [List.length_map, (List.mergeSort_perm _ _).length_eq, pm.length_eq, sizeLine_eq]
    have := R.few
    omega
  have J : Inv X pins σ (upd H b (.lst ((L1.mergeSort (DL.leP fun p => p.2.data)).map fun p : Addr × NestedKey => V.ref p.1))) { s with heap := s'.heap, gens := s'.gens, drawn := s'.drawn, toks := s'.toks } :=
    I.call (ch := []) (Un.laid k sz hn) (I.hok.laid k sz ⟨hl, _, c, refs_vals _, hb⟩) (by rw [g]; exact I.bare) fun _ z => nomatch z
  have e : s' = { s with heap := s'.heap, gens := s'.gens, drawn := s'.drawn, toks := s'.toks } := by
    cases s'
    cases s
    cases o
    rfl
  rw [e]
  exact ⟨.ref b, _, J, rfl, q L1 b pm hn⟩
end
end DS
end

section
set_option Elab.async false
set_option linter.all false
set_option maxRecDepth 100000
set_option maxHeartbeats 4000000
/-! DU: sorted(set(..)) of nested tuples of integers, over data -/
namespace DL
open PySem PySem.Spec PyProof.Rows L2
theorem perm_sorted {α : Type} {le : α → α → Bool} : ∀ {l m : List α}, (∀ a ∈ l, ∀ b ∈ m, le a b = true → le b a = true → a = b) → l.Pairwise (fun a b => le a b = true) → m.Pairwise (fun a b => le a b = true) → l.Perm m → (∀ a ∈ l, le a a = true) → l = m
  | [], m, _, _, _, p, _ => (List.Perm.nil_eq p)
  | x :: l, [], _, _, _, p, _ => absurd p.length_eq (by simp)
  | x :: l, y :: m, h, hl, hm, p, hr => by
    have hx : x ∈ y :: m := p.mem_iff.mp List.mem_cons_self
    have hy : y ∈ x :: l := p.mem_iff.mpr List.mem_cons_self
    have e : x = y := by
      have h1 : le x y = true := by
        rcases List.mem_cons.mp hy with e | hy
        · rw [e]; exact hr x List.mem_cons_self
        · exact (List.pairwise_cons.mp hl).1 y hy
      have h2 : le y x = true := by
        rcases List.mem_cons.mp hx with e | hx
        · rw [← e]; exact hr x List.mem_cons_self
        · exact (List.pairwise_cons.mp hm).1 x hx
      exact h x List.mem_cons_self y List.mem_cons_self h1 h2
    subst e
    rw [perm_sorted (fun a ha b hb => h a (List.mem_cons_of_mem _ ha) b (List.mem_cons_of_mem _ hb)) (List.pairwise_cons.mp hl).2 (List.pairwise_cons.mp hm).2 (List.perm_cons _ |>.mp p) fun a ha => hr a (List.mem_cons_of_mem _ ha)]
mutual
/-- the key that a datum is -/
def kD : D → Option NestedKey
  | .int i => some (.num i)
  | .tup xs => (kDs xs).map .tup
  | _ => none
def kDs : List D → Option (List NestedKey)
  | [] => some []
  | x :: xs => match kD x, kDs xs with
    | some k, some ks => some (k :: ks)
    | _, _ => none
end
mutual
def toD : NestedKey → D
  | .none => .non
  | .num i => .int i
  | .text x => .str x
  | .tup ks => .tup (toDs ks)
def toDs : List NestedKey → List D
  | [] => []
  | k :: ks => toD k :: toDs ks
end
theorem toDs_map : ∀ ks : List NestedKey, toDs ks = ks.map toD
  | [] => by rw [toDs]; rfl
  | k :: ks => by rw [toDs, toDs_map ks]; rfl
mutual
theorem toP_toD : ∀ k : NestedKey, toP (toD k) = some k.data
  | .none => by rw [toD, toP, NestedKey.data]
  | .num i => by rw [toD, toP, NestedKey.data]
  | .text x => by rw [toD, toP, NestedKey.data]
  | .tup ks => by rw [toD, toP, NestedKey.data, toPs_toDs ks]; rfl
theorem toPs_toDs : ∀ ks : List NestedKey, toPs (toDs ks) = some (NestedKey.datas ks)
  | [] => by rw [toDs, toPs, NestedKey.datas]
  | k :: ks => by rw [toDs, toPs, NestedKey.datas, toP_toD k, toPs_toDs ks]
end
theorem pD_toD (k : NestedKey) : pD (toD k) = k.data := by
  unfold pD
  rw [toP_toD]
  rfl
mutual
theorem kD_is : ∀ {d : D} {k : NestedKey}, kD d = some k → d = toD k ∧ DS.numK k = true
  | .int i, k, h => by
    rw [kD] at h
    cases h
    rw [toD, DS.numK]
    exact ⟨rfl, rfl⟩
  | .tup xs, k, h => by
    rw [kD] at h
    cases e : kDs xs with
    | none => rw [e] at h; cases h
    | some ks =>
      rw [e] at h
      cases h
      obtain ⟨r1, r2⟩ := kDs_is e
      rw [toD, DS.numK, ← r1]
      exact ⟨rfl, r2⟩
  | .non, _, h => by simp [kD] at h
  | .bl _, _, h => by simp [kD] at h
  | .str _, _, h => by simp [kD] at h
  | .lst _, _, h => by simp [kD] at h
  | .scr _, _, h => by simp [kD] at h
  | .tin, _, h => by simp [kD] at h
  | .dct _, _, h => by simp [kD] at h
theorem kDs_is : ∀ {ds : List D} {ks : List NestedKey}, kDs ds = some ks → ds = toDs ks ∧ DS.numKs ks = true
  | [], ks, h => by
    rw [kDs] at h
    cases h
    rw [toDs, DS.numKs]
    exact ⟨rfl, rfl⟩
  | d :: ds, ks, h => by
    rw [kDs] at h
    cases e : kD d with
    | none => rw [e] at h; cases h
    | some k =>
      cases e2 : kDs ds with
      | none => rw [e, e2] at h; cases h
      | some ls =>
        rw [e, e2] at h
        cases h
        obtain ⟨r1, r2⟩ := kD_is e
        obtain ⟨r3, r4⟩ := kDs_is e2
        rw [toDs, DS.numKs, ← r1, ← r3, r2, r4]
        exact ⟨rfl, rfl⟩
end
mutual
theorem kD_toD : ∀ {k : NestedKey}, DS.numK k = true → kD (toD k) = some k
  | .num i, _ => by rw [toD, kD]
  | .tup ks, h => by
    rw [DS.numK] at h
    rw [toD, kD, kDs_toDs h]
    rfl
  | .none, h => by simp [DS.numK] at h
  | .text _, h => by simp [DS.numK] at h
theorem kDs_toDs : ∀ {ks : List NestedKey}, DS.numKs ks = true → kDs (toDs ks) = some ks
  | [], _ => by rw [toDs, kDs]
  | k :: ks, h => by
    rw [DS.numKs, Bool.and_eq_true] at h
    rw [toDs, kDs, kD_toD h.1, kDs_toDs h.2]
end
/-! ### two keys in the same place are one -/
mutual
theorem toks_inj : ∀ {a b : NestedKey}, DS.numK a = true → DS.numK b = true → PySem.W.alike a.data b.data = true → ∀ l m, PySem.W.keyToks a.data ++ l = PySem.W.keyToks b.data ++ m → a = b ∧ l = m
  | .num i, .num j, _, _, _, l, m, h => by
    rw [NestedKey.data, NestedKey.data, PySem.W.keyToks, PySem.W.keyToks] at h
    simp only [List.cons_append, List.nil_append, List.cons.injEq, Sum.inl.injEq] at h
    exact ⟨by rw [h.1], h.2⟩
  | .tup xs, .tup ys, ha, hb, hl, l, m, h => by
    rw [DS.numK] at ha hb
    rw [NestedKey.data, NestedKey.data, PySem.W.alike] at hl
    rw [NestedKey.data, NestedKey.data, PySem.W.keyToks, PySem.W.keyToks] at h
    obtain ⟨r1, r2⟩ := toksAll_inj ha hb hl l m h
    exact ⟨by rw [r1], r2⟩
  | .num i, .tup ys, _, _, hl, _, _, _ => by
    rw [NestedKey.data, NestedKey.data] at hl
    simp [PySem.W.alike] at hl
  | .tup ys, .num i, _, _, hl, _, _, _ => by
    rw [NestedKey.data, NestedKey.data] at hl
    simp [PySem.W.alike] at hl
  | .none, _, h, _, _, _, _, _ => by simp [DS.numK] at h
  | .text _, _, h, _, _, _, _, _ => by simp [DS.numK] at h
  | .num _, .none, _, h, _, _, _, _ => by simp [DS.numK] at h
  | .num _, .text _, _, h, _, _, _, _ => by simp [DS.numK] at h
  | .tup _, .none, _, h, _, _, _, _ => by simp [DS.numK] at h
  | .tup _, .text _, _, h, _, _, _, _ => by simp [DS.numK] at h
theorem toksAll_inj : ∀ {a b : List NestedKey}, DS.numKs a = true → DS.numKs b = true → PySem.W.alikeAll (NestedKey.datas a) (NestedKey.datas b) = true → ∀ l m, PySem.W.keyToksAll (NestedKey.datas a) ++ l = PySem.W.keyToksAll (NestedKey.datas b) ++ m → a = b ∧ l = m
  | [], [], _, _, _, l, m, h => by
    rw [NestedKey.datas, PySem.W.keyToksAll] at h
    simp only [List.cons_append, List.nil_append, List.cons.injEq, true_and] at h
    exact ⟨rfl, h⟩
  | [], y :: ys, _, _, _, l, m, h => by
    rw [NestedKey.datas, NestedKey.datas, PySem.W.keyToksAll, PySem.W.keyToksAll] at h
    simp at h
  | x :: xs, [], _, _, _, l, m, h => by
    rw [NestedKey.datas, NestedKey.datas, PySem.W.keyToksAll, PySem.W.keyToksAll] at h
    simp at h
  | x :: xs, y :: ys, ha, hb, hl, l, m, h => by
    rw [DS.numKs, Bool.and_eq_true] at ha hb
    rw [NestedKey.datas, NestedKey.datas, PySem.W.alikeAll, Bool.and_eq_true] at hl
    rw [NestedKey.datas, NestedKey.datas, PySem.W.keyToksAll, PySem.W.keyToksAll] at h
    simp only [List.cons_append, List.cons.injEq, true_and, List.append_assoc] at h
    obtain ⟨r1, r2⟩ := toks_inj ha.1 hb.1 hl.1 _ _ h
    obtain ⟨r3, r4⟩ := toksAll_inj ha.2 hb.2 hl.2 _ _ r2
    exact ⟨by rw [r1, r3], r4⟩
end
def leK : NestedKey → NestedKey → Bool := leP NestedKey.data
theorem leK_total : PySem.W.TotalLe leK := PySem.W.sortLe_total (PyProof.Rows.listOrd PyProof.Rows.itemOrd) false (fun z : NestedKey => PySem.W.keyToks z.data)
theorem leK_one {a b : NestedKey} (ha : DS.numK a = true) (hb : DS.numK b = true) (al : PySem.W.alike a.data b.data = true) (h1 : leK a b = true) (h2 : leK b a = true) : a = b := by
  unfold leK leP PySem.W.sortLe at h1 h2
  simp only [cond_false, Bool.not_eq_true'] at h1 h2
  have e := (PyProof.Rows.listOrd PyProof.Rows.itemOrd).total _ _ h2 h1
  exact (toks_inj ha hb al [] [] (by rw [List.append_nil, List.append_nil]; exact e)).1
/-! ### the keys, each once -/
def onceK : List NestedKey → List NestedKey
  | [] => []
  | k :: ks => if k ∈ onceK ks then onceK ks else k :: onceK ks
theorem mem_onceK {x : NestedKey} : ∀ {ks : List NestedKey}, x ∈ onceK ks ↔ x ∈ ks
  | [] => Iff.rfl
  | k :: ks => by
    unfold onceK
    split
    · rename_i h
      rw [mem_onceK, List.mem_cons]
      constructor
      · exact .inr
      · rintro (rfl | z)
        · exact mem_onceK.mp h
        · exact z
    · rw [List.mem_cons, List.mem_cons, mem_onceK]
theorem onceK_nodup : ∀ ks : List NestedKey, (onceK ks).Nodup
  | [] => List.nodup_nil
  | k :: ks => by
    unfold onceK
    split
    · exact onceK_nodup ks
    · rename_i h
      exact List.nodup_cons.mpr ⟨h, onceK_nodup ks⟩
theorem perm_nodup {α : Type} [DecidableEq α] {a b : List α} (ha : a.Nodup) (hb : b.Nodup) (h : ∀ x, x ∈ a ↔ x ∈ b) : a.Perm b := (List.perm_ext_iff_of_nodup ha hb).mpr h
def setK (ks : List NestedKey) : List NestedKey := (onceK ks).mergeSort leK
/-- sorted lists of the same alike keys, each once, are one -/
theorem setK_one {ks ls : List NestedKey} (hn : ∀ k ∈ ks, DS.numK k = true) (al : ∀ a ∈ ks, ∀ b ∈ ks, PySem.W.alike a.data b.data = true) (h : ∀ x, x ∈ ls ↔ x ∈ ks) (nd : ls.Nodup) (hs : ls.Pairwise fun a b => leK a b = true) : ls = setK ks := by
  have p : ls.Perm (setK ks) := (perm_nodup nd (onceK_nodup ks) fun x => (h x).trans mem_onceK.symm).trans (List.mergeSort_perm _ _).symm
  refine perm_sorted (le := leK) (fun a ha b hb h1 h2 => ?_) hs (PySem.W.sort_pairwise leK_total _) p fun a _ => leK_total.refl a
  have ha := (h a).mp ha
  have hb := (h b).mp (p.mem_iff.mpr hb)
  exact leK_one (hn a ha) (hn b hb) (al a ha b hb) h1 h2
theorem setK_mem {ks : List NestedKey} {x : NestedKey} : x ∈ setK ks ↔ x ∈ ks := (List.mergeSort_perm _ _).mem_iff.trans mem_onceK
theorem setK_nodup (ks : List NestedKey) : (setK ks).Nodup := (List.mergeSort_perm _ _).nodup_iff.mpr (onceK_nodup ks)
theorem setK_sorted (ks : List NestedKey) : (setK ks).Pairwise fun a b => leK a b = true := PySem.W.sort_pairwise leK_total _
/-! ### the mirror -/
def isTupK : NestedKey → Bool
  | .tup _ => true
  | _ => false
def okSet (ks : List NestedKey) : Bool := okSort (ks.map NestedKey.data) && (ks.all fun k => isTupK k && decide (k.depth ≤ 8)) && decide ((onceK ks).length < 64)
def sortSetL (ds : List D) : M (List D) := match kDs ds with
  | some ks => if okSet ks = true then M.pure (toDs (setK ks)) else M.no
  | none => M.no
def fSortSet (fa : Env → M D) : Env → M (List D) := fun ρ => M.bind (fa ρ) fun x => M.bind (M.lift (itemsD x)) sortSetL
section
variable {κ : Kc} {T : Option Addr} {F : Hp}
theorem refs_of {vs : List V} : ∀ {ds : List D} {ks : List NestedKey}, RepAll κ T F vs ds → kDs ds = some ks → (∀ k ∈ ks, isTupK k = true) → ∃ kv : List (Addr × NestedKey), vs = kv.map (fun p => V.ref p.1) ∧ ks = kv.map (·.2) ∧ ∀ p ∈ kv, Rep κ T F (.ref p.1) (toD p.2) ∧ DS.numK p.2 = true := by
  induction vs with
  | nil =>
    intro ds ks r h _
    cases r
    rw [kDs] at h
    cases h
    exact ⟨[], rfl, rfl, fun p hp => by cases hp⟩
  | cons v vs ih =>
    intro ds ks r h ht
    cases r with
    | cons r1 r2 =>
      rename_i d ds
      rw [kDs] at h
      cases e : kD d with
      | none => rw [e] at h; cases h
      | some k =>
        cases e2 : kDs ds with
        | none => rw [e, e2] at h; cases h
        | some ls =>
          rw [e, e2] at h
          cases h
          obtain ⟨kv, e3, e4, e5⟩ := ih r2 e2 fun q hq => ht q (List.mem_cons_of_mem _ hq)
          obtain ⟨e6, e7⟩ := kD_is e
          have tk := ht k List.mem_cons_self
          cases k with
          | tup qs =>
            rw [e6, toD] at r1
            cases r1 with
            | tup s r =>
              rename_i a us
              refine ⟨(a, .tup qs) :: kv, by rw [List.map_cons, e3], by rw [List.map_cons, ← e4], fun p hp => ?_⟩
              rcases List.mem_cons.mp hp with rfl | hp
              · refine ⟨?_, e7⟩
                show Rep κ T F (.ref a) (toD (.tup qs))
                rw [toD]
                exact .tup s r
              · exact e5 p hp
          | _ => cases tk
theorem rep_of_refs : ∀ {kv : List (Addr × NestedKey)}, (∀ p ∈ kv, Rep κ T F (.ref p.1) (toD p.2)) → RepAll κ T F (kv.map fun p => V.ref p.1) (toDs (kv.map (·.2)))
  | [], _ => by rw [List.map_nil, List.map_nil, toDs]; exact .nil
  | p :: kv, h => by
    rw [List.map_cons, List.map_cons, toDs]
    exact .cons (h p List.mem_cons_self) (rep_of_refs fun q hq => h q (List.mem_cons_of_mem _ hq))
end
theorem okSort_sub {ps qs : List PyData} (h : okSort ps = true) (i : ∀ q ∈ qs, q ∈ ps) : okSort qs = true := by
  unfold okSort allAlike at h ⊢
  simp only [Bool.and_eq_true, Bool.or_eq_true, List.all_eq_true] at h ⊢
  refine ⟨⟨fun a ha b hb => h.1.1 a (i a ha) b (i b hb), ?_⟩, fun a ha => h.2 a (i a ha)⟩
  rcases h.1.2 with z | z
  · exact .inl fun a ha => z a (i a ha)
  · exact .inr fun a ha => z a (i a ha)
section
variable {X : Cx} {W : WX} {e : Expr} {fa : Env → M D} {p p2 q2 pos : Pos}
theorem df_sortSet (hc : X.calm = true) (hu : X.A.units + 200 < cLine) (hg : Gl X "sorted") (hm : X.mg "sorted" = none) (hg2 : Gl X "set") (hm2 : X.mg "set" = none) (ha : DE X W true e fa)
    (he : starEach [e] X.env = (false, eval e X.env) :: starEach [] X.env := by rfl) (he2 : starEach [.Call (.Name "set" p2) [e] [] q2] X.env = (false, eval (.Call (.Name "set" p2) [e] [] q2) X.env) :: starEach [] X.env := by rfl)
    (hpl : (backTo q2 (starEach [] X.env)).any (·.1) = false := by rfl) (hpl2 : (backTo pos (starEach [] X.env)).any (·.1) = false := by rfl) :
    DF X W (.Call (.Name "sorted" p) [.Call (.Name "set" p2) [e] [] q2] [] pos) (fSortSet fa) :=
  impPE (pe_callB (DS.cr_sortN hc hu) hg hm (by decide +kernel) (pa_cons (pe_callTy (DS.cr_setN hc hu) hg2 hm2 (by decide +kernel) (pa_cons ha pa_nil he) (by decide) (by decide) he hpl) pa_nil he2) (by decide) (by decide) he2 hpl2) fun σ H Q ⟨T, F, ρ, τ, s, q⟩ => by
    refine tD_mono (tD_of (m := true) s s.bs.refl q) fun x H1 ⟨F1, τ1, d, x1, y1, s1, r1, q1⟩ => ?_
    obtain ⟨ds, hds, q1⟩ := wpR_lift (wpR_bind q1)
    have seq : ∃ (a : Addr) (vs : List V), x = .ref a ∧ (SqL X.K H1 a vs ∨ SqT X.K H1 a vs) ∧ RepAll (kc X) T F1 vs ds := by
      cases d with
      | tup xs =>
        cases hds
        obtain ⟨a, vs, rfl, hq, rv⟩ := RepTop.tup r1
        exact ⟨a, vs, rfl, .inr (seqT s1.bs.le hq), rv⟩
      | lst xs =>
        cases hds
        obtain ⟨a, vs, rfl, hq, rv⟩ := RepTop.lst r1 s1.bs.le
        exact ⟨a, vs, rfl, .inl (SqL.of hq), rv⟩
      | _ => cases hds
    obtain ⟨a, vs, rfl, hq, rv⟩ := seq
    unfold sortSetL at q1
    cases e1 : kDs ds with
    | none => rw [e1] at q1; exact q1.elim
    | some ks =>
      rw [e1] at q1
      have q1 : wpR ((if okSet ks = true then M.pure (toDs (setK ks)) else M.no) τ1) (freshP (kc X) T F H Q) (wX X.mg W T F H σ) := q1
      split at q1
      · rename_i hk
        unfold okSet at hk
        simp only [Bool.and_eq_true, decide_eq_true_eq, List.all_eq_true] at hk
        obtain ⟨⟨ok, each⟩, few⟩ := hk
        obtain ⟨kv, ev, ek, hr⟩ := refs_of rv e1 fun k h => (each k h).1
        have keyV : ∀ (H2 : Hp), Same F1 H2 → ∀ p ∈ kv, DS.KeyV X.K H2 p.1 p.2 := fun H2 le p hp =>
          ⟨Rep.dp ((hr p hp).1.mono le) (toP_toD p.2), (hr p hp).2, (each p.2 (by rw [ek]; exact List.mem_map.mpr ⟨p, hp, rfl⟩)).2⟩
        have fewK : DS.FewK kv := fun l nd sub => by
          have : l.length ≤ (onceK ks).length := List.Nodup.length_le_of_subset nd fun x hx => mem_onceK.mpr (by rw [ek]; exact sub x hx)
          omega
        refine ⟨a, kv, rfl, by rw [← ev]; exact hq, keyV H1 s1.bs.le, fewK, fun b L hb hsub hall hnd => ⟨b, L, rfl, upd_same, ?_, ?_, fun L1 l p1 hl => ?_⟩⟩
        · have x2 := s1.bs.aside (o := DS.SetNO X.w b L) hb
          exact fun p hp => keyV _ x2.sub p (hsub p hp)
        · refine okSort_sub ok fun q hq => ?_
          obtain ⟨p, hp, rfl⟩ := List.mem_map.mp hq
          rw [ek]
          exact List.mem_map.mpr ⟨p.2, List.mem_map.mpr ⟨p, hsub p hp, rfl⟩, rfl⟩
        · have x2 := s1.bs.aside (o := DS.SetNO X.w b L) hb
          have x3 := x2.bs.aside (o := .lst ((L1.mergeSort (leP fun p => p.2.data)).map fun p => V.ref p.1)) hl
          have hl1 : H1 l = none := was_free x2 hl
          refine q1 l _ F1 _ ((x1.trans x2).trans x3) (was_free x1 hl1) (Same.free s1.bs.le hl1) upd_same (T_ne s1.bs hl1) ?_
          have inkv : ∀ p ∈ L1.mergeSort (leP fun p : Addr × NestedKey => p.2.data), p ∈ kv := fun p hp => hsub p (p1.mem_iff.mp ((List.mergeSort_perm _ _).mem_iff.mp hp))
          have es : setK ks = (L1.mergeSort (leP fun p : Addr × NestedKey => p.2.data)).map (·.2) := by
            rw [sort_snd (fun p : Addr × NestedKey => p.2) NestedKey.data]
            have pm : (L1.map (·.2)).Perm (DS.ks L) := p1.map _
            refine (setK_one (fun k hk => ?_) (fun x hx y hy => ?_) (fun x => ?_) ((List.mergeSort_perm _ _).nodup_iff.mpr (pm.nodup_iff.mpr hnd)) (PySem.W.sort_pairwise leK_total _)).symm
            · rw [ek] at hk
              obtain ⟨p, hp, rfl⟩ := List.mem_map.mp hk
              exact (hr p hp).2
            · exact (okSort_of ok).1 _ (List.mem_map.mpr ⟨x, hx, rfl⟩) _ (List.mem_map.mpr ⟨y, hy, rfl⟩)
            · refine ((List.mergeSort_perm _ _).mem_iff.trans pm.mem_iff).trans ⟨fun hx => ?_, fun hx => ?_⟩
              · obtain ⟨p, hp, rfl⟩ := List.mem_map.mp hx
                rw [ek]
                exact List.mem_map.mpr ⟨p, hsub p hp, rfl⟩
              · rw [ek] at hx
                obtain ⟨p, hp, rfl⟩ := List.mem_map.mp hx
                exact hall p hp
          rw [es]
          exact rep_of_refs fun p hp => (hr p (inkv p hp)).1
      · exact q1.elim
end
end DL
end

section
set_option Elab.async false
set_option linter.all false
set_option maxRecDepth 100000
set_option maxHeartbeats 4000000
/-! DV: zip of two sequences, each a list or a tuple -/
namespace DL
open PySem PySem.Spec PyProof.Rows L2
/-- a sequence of the kind t: a tuple, or a list -/
def SqB (t : Bool) (K : PySem.W.Frag) (H : Hp) (a : Addr) (xs : List V) : Prop := match t with
  | true => SqT K H a xs
  | false => SqL K H a xs
def ObB (t : Bool) (h : Heap) (a : Addr) (its : Array Value) : Prop := match t with
  | true => h.IsTuple a its
  | false => h.IsList a its
def AtB (t : Bool) (h : Heap) (i a : Addr) (k : Nat) : Prop := match t with
  | true => h.IsTupleIter i a k
  | false => h.IsListIter i a k
def itB (t : Bool) (a : Addr) : Obj := match t with
  | true => { cls := .type "tuple_iterator", data := .fields #[.ref a, .int 0 0] }
  | false => { cls := .type "list_iterator", data := .fields #[.ref a, .int 0 0] }
theorem SqB.mono {t : Bool} {K : PySem.W.Frag} {H H' : Hp} {a : Addr} {xs : List V} (e : Same H H') (h : SqB t K H a xs) : SqB t K H' a xs := by
  cases t with
  | true =>
    rcases h with (h | ⟨o, h⟩) | h
    · exact .inl (.inl (e _ _ h))
    · exact .inl (.inr ⟨o, e _ _ h⟩)
    · exact .inr h
  | false => exact e.seq h
theorem SqB.obj {X : Cx} {t : Bool} {pins : List (Addr × Obj)} {σ : L2.St} {H : Hp} {s : Shared} {a : Addr} {xs : List V} (I : Inv X pins σ H s) (h : SqB t X.K H a xs) : ∃ its : List Value, Vals xs its ∧ ObB t s.heap a its.toArray ∧ a < s.heap.objs.size := by
  cases t with
  | true =>
    obtain ⟨its, rv, pt, _⟩ := I.tuple h
    obtain ⟨o, ho, _⟩ := id pt
    exact ⟨its, rv, pt, Heap.lt_size ho⟩
  | false =>
    obtain ⟨its, rv, pl, _⟩ := I.list h
    exact ⟨its, rv, pl.isList, pl.lt⟩
theorem begins_B (t : Bool) (a : Addr) (its : Array Value) : Begins (.ref a) (itB t a) fun h => ObB t h a its := by
  cases t with
  | true => exact begins_tuple a its
  | false => exact begins_list a its
theorem AtB.start {t : Bool} {h : Heap} {i a : Addr} (e : h.get? i = some (itB t a)) : AtB t h i a 0 := by
  cases t with
  | true => exact ⟨_, e, rfl, rfl⟩
  | false => exact ⟨_, e, rfl, rfl⟩
theorem AtB.there {t : Bool} {h : Heap} {i a : Addr} {k : Nat} (x : AtB t h i a k) : ∃ o, h.get? i = some o ∧ ∀ v, o.data ≠ .cell v := by
  cases t with
  | true =>
    obtain ⟨o, e, _, d⟩ := x
    exact ⟨o, e, fun v q => by rw [d] at q; cases q⟩
  | false =>
    obtain ⟨o, e, _, d⟩ := x
    exact ⟨o, e, fun v q => by rw [d] at q; cases q⟩
theorem AtB.keep {t : Bool} {h h' : Heap} {i a : Addr} {k : Nat} (x : AtB t h i a k) (e : ∀ o, h.get? i = some o → h'.get? i = some o) : AtB t h' i a k := by
  cases t with
  | true => exact Heap.IsTupleIter.at x e
  | false => exact Heap.IsListIter.at x e
theorem draws_B {prog : Program} {w : World} {A : Around} (t : Bool) (hh : A.handled = none) (it a : Addr) (hne : a ≠ it) (items : Array Value) :
    Draws prog w A it [it, a] items.size (fun i v => items[i]? = some v) (fun i h => AtB t h it a i ∧ ObB t h a items) := by
  cases t with
  | true => exact Draws.tuple hh it a hne items
  | false => exact Draws.list hh it a hne items
/-- zip of the two -/
def ItzB (t1 t2 : Bool) (K : PySem.W.Frag) (a b : Addr) (xs ys : List V) : It where
  go := fun i H => (SqB t1 K H a xs ∧ SqB t2 K H b ys) ∧ i < xs.length ∧ i < ys.length
  yld := fun i H v H' => ∃ T x y, xs[i]? = some x ∧ ys[i]? = some y ∧ v = .ref T ∧ H T = none ∧ H' = upd H T (.tup [x, y])
  stop := fun i H => (SqB t1 K H a xs ∧ SqB t2 K H b ys) ∧ i ≤ xs.length ∧ i ≤ ys.length ∧ (i = xs.length ∨ i = ys.length)
theorem turn_zipB {P : Program} {w : World} {K : PySem.W.Frag} {elts : List Expr} {kk : Nat} {tpos : Pos} {a b z TI TO i1 i2 : Addr} (t1 t2 : Bool) (xs ys : List V) (D : ZipSep2 z TI TO i1 i2 [i1, a] [i2, b]) :
    Turn P w K (.Tuple elts kk tpos) (ItzB t1 t2 K a b xs ys) [z, TI, TO, i1, i2] z (fun i h => IsZip h z TI TO .none ∧ IsTupOf2 h TI (.ref i1) (.ref i2) ∧ (∃ x y, IsTupOf2 h TO x y) ∧ AtB t1 h i1 a i ∧ AtB t2 h i2 b i) where
  mem := by simp
  obj := fun i h st c hc => by
    obtain ⟨hz, hTI, ⟨x, y, hTO⟩, h1, h2⟩ := st
    have e' : c = z ∨ c = TI ∨ c = TO ∨ c = i1 ∨ c = i2 := by simpa using hc
    rcases e' with q | q | q | q | q
    · rw [q]; exact ⟨_, hz, fun v q => nomatch q⟩
    · rw [q]; exact ⟨_, hTI, fun v q => nomatch q⟩
    · rw [q]; exact ⟨_, hTO, fun v q => nomatch q⟩
    · rw [q]; exact h1.there
    · rw [q]; exact h2.there
  keep := fun i h h' st k => by
    obtain ⟨hz, hTI, ⟨x, y, hTO⟩, h1, h2⟩ := st
    exact ⟨k z (by simp) _ hz, k TI (by simp) _ hTI, ⟨x, y, k TO (by simp) _ hTO⟩, h1.keep fun o q => k i1 (by simp) o q, h2.keep fun o q => k i2 (by simp) o q⟩
  item := by
    intro X hP hw hK hc i pins s σ H E I hf st hg
    subst hP hw hK
    obtain ⟨hz, hTI, ⟨x0, y0, hTO⟩, h1, h2⟩ := st
    obtain ⟨⟨hqx, hqy⟩, l1, l2⟩ := hg
    obtain ⟨its, rv, p, _⟩ := SqB.obj I hqx
    obtain ⟨its2, rv2, p2, _⟩ := SqB.obj I hqy
    obtain ⟨u, hu, ru⟩ := rv.get (List.getElem?_eq_getElem l1)
    obtain ⟨u2, hu2, ru2⟩ := rv2.get (List.getElem?_eq_getElem l2)
    have hzl : z < s.heap.objs.size := Heap.lt_size hz
    have n1 : a ≠ i1 := fun e => by
      subst e
      obtain ⟨o, ho, _⟩ := h1.there
      have g1 := SqB.obj I hqx
      have : (∃ o, s.heap.get? a = some o ∧ o.cls = .type (if t1 then "tuple" else "list")) := by
        cases t1 with
        | true => obtain ⟨o, e, c, _⟩ := p; exact ⟨o, e, c⟩
        | false => obtain ⟨o, e, c, _⟩ := p; exact ⟨o, e, c⟩
      obtain ⟨o', e', c'⟩ := this
      cases t1 with
      | true => obtain ⟨o2, e2, c2, _⟩ := h1; rw [e2] at e'; cases e'; rw [c2] at c'; exact absurd c' (by decide)
      | false => obtain ⟨o2, e2, c2, _⟩ := h1; rw [e2] at e'; cases e'; rw [c2] at c'; exact absurd c' (by decide)
    have n2 : b ≠ i2 := fun e => by
      subst e
      have : (∃ o, s.heap.get? b = some o ∧ o.cls = .type (if t2 then "tuple" else "list")) := by
        cases t2 with
        | true => obtain ⟨o, e, c, _⟩ := p2; exact ⟨o, e, c⟩
        | false => obtain ⟨o, e, c, _⟩ := p2; exact ⟨o, e, c⟩
      obtain ⟨o', e', c'⟩ := this
      cases t2 with
      | true => obtain ⟨o2, e2, c2, _⟩ := h2; rw [e2] at e'; cases e'; rw [c2] at c'; exact absurd c' (by decide)
      | false => obtain ⟨o2, e2, c2, _⟩ := h2; rw [e2] at e'; cases e'; rw [c2] at c'; exact absurd c' (by decide)
    have z1 : its.toArray.size = xs.length := by rw [List.size_toArray]; exact rv.length.symm
    have z2 : its2.toArray.size = ys.length := by rw [List.size_toArray]; exact rv2.length.symm
    have D1 := draws_B (prog := X.prog) (w := X.w) (A := X.A.in1) t1 (I.ok.hd hc) i1 a n1 its.toArray
    have D2 := draws_B (prog := X.prog) (w := X.w) (A := X.A.in1) t2 (I.ok.hd hc) i2 b n2 its2.toArray
    refine wpAny_pyNext_zipD2_item D D1 D2 hz hTI hTO ⟨h1, p⟩ ⟨h2, p2⟩ (by omega) (by omega) fun x1 x2 h' tk px1 px2 z' TO' st1' st2' hT hsz hk => ?_
    have e1 : x1 = u := by
      have q : its[i]? = some x1 := by rw [← List.getElem?_toArray]; exact px1
      rw [hu] at q
      exact (Option.some.inj q).symm
    have e2 : x2 = u2 := by
      have q : its2[i]? = some x2 := by rw [← List.getElem?_toArray]; exact px2
      rw [hu2] at q
      exact (Option.some.inj q).symm
    subst e1 e2
    refine ⟨_, rfl, wpAny_letOwnedTupleGo_zip (s := { s with heap := h', toks := tk }) z' fun h'' z'' sb => ?_⟩
    have hT2 : h''.get? s.heap.objs.size = some { cls := .type "tuple", data := .seq #[x1, x2] } := (sb.2 _ (Nat.ne_of_gt hzl)).trans hT
    have new : ObjOk X.prog X.w (upd H s.heap.objs.size (.tup [xs[i], ys[i]])) h'' s.heap.objs.size (.tup [xs[i], ys[i]]) :=
      ⟨by show 2 ≤ sizeLine; decide, [x1, x2], .cons ru (.cons ru2 .nil), ⟨_, hT2, rfl, _, rfl⟩⟩
    have I1 : Inv X pins σ (upd H s.heap.objs.size (.tup [xs[i], ys[i]])) { s with heap := h'', toks := tk } :=
      I.turnedNew (ch := [z, TI, TO, i1, i2]) (fun c o hb q => (sb.2 c (fun q' => hb (by simp [q']))).trans (hk c o (fun q' => hb (by simp [q'])) (fun q' => hb (by simp [q'])) (fun q' => hb (by simp [q'])) (fun q' => hb (by simp [q'])) q)) hf (Nat.le_refl _) new
    have zi1 := D.zi1
    have zi2 := D.zi2
    refine ⟨.ref s.heap.objs.size, _, I1, rfl, ⟨_, _, _, List.getElem?_eq_getElem l1, List.getElem?_eq_getElem l2, rfl, I.hok.fresh (Nat.le_refl _), rfl⟩, ⟨z'', ?_, ⟨x1, x2, ?_⟩, ?_, ?_⟩, fun c hcm => ?_⟩
    · exact (sb.2 _ D.TIz).trans (hk _ _ D.TIz D.TITO D.TIi1 D.TIi2 hTI)
    · exact (sb.2 _ D.TOz).trans TO'
    · exact st1'.1.keep fun o q => (sb.2 _ (Ne.symm zi1)).trans q
    · exact st2'.1.keep fun o q => (sb.2 _ (Ne.symm zi2)).trans q
    · have hlt : c < s.heap.objs.size := by
        have e' : c = z ∨ c = TI ∨ c = TO ∨ c = i1 ∨ c = i2 := by simpa using hcm
        rcases e' with q | q | q | q | q
        · rw [q]; exact hzl
        · rw [q]; exact Heap.lt_size hTI
        · rw [q]; exact Heap.lt_size hTO
        · rw [q]; obtain ⟨_, e1, _⟩ := h1.there; exact Heap.lt_size e1
        · rw [q]; obtain ⟨_, e2, _⟩ := h2.there; exact Heap.lt_size e2
      rw [upd_ne (Nat.ne_of_lt hlt)]
      exact (hf c hcm).1
  done := by
    intro X hP hw hK hc i pins s σ H E I hf st hg
    subst hP hw hK
    obtain ⟨hz, hTI, ⟨x0, y0, hTO⟩, h1, h2⟩ := st
    obtain ⟨⟨hqx, hqy⟩, l1, l2, hend⟩ := hg
    obtain ⟨its, rv, p, _⟩ := SqB.obj I hqx
    obtain ⟨its2, rv2, p2, _⟩ := SqB.obj I hqy
    have n1 : a ≠ i1 := fun e => by
      subst e
      have : (∃ o, s.heap.get? a = some o ∧ o.cls = .type (if t1 then "tuple" else "list")) := by
        cases t1 with
        | true => obtain ⟨o, e, c, _⟩ := p; exact ⟨o, e, c⟩
        | false => obtain ⟨o, e, c, _⟩ := p; exact ⟨o, e, c⟩
      obtain ⟨o', e', c'⟩ := this
      cases t1 with
      | true => obtain ⟨o2, e2, c2, _⟩ := h1; rw [e2] at e'; cases e'; rw [c2] at c'; exact absurd c' (by decide)
      | false => obtain ⟨o2, e2, c2, _⟩ := h1; rw [e2] at e'; cases e'; rw [c2] at c'; exact absurd c' (by decide)
    have n2 : b ≠ i2 := fun e => by
      subst e
      have : (∃ o, s.heap.get? b = some o ∧ o.cls = .type (if t2 then "tuple" else "list")) := by
        cases t2 with
        | true => obtain ⟨o, e, c, _⟩ := p2; exact ⟨o, e, c⟩
        | false => obtain ⟨o, e, c, _⟩ := p2; exact ⟨o, e, c⟩
      obtain ⟨o', e', c'⟩ := this
      cases t2 with
      | true => obtain ⟨o2, e2, c2, _⟩ := h2; rw [e2] at e'; cases e'; rw [c2] at c'; exact absurd c' (by decide)
      | false => obtain ⟨o2, e2, c2, _⟩ := h2; rw [e2] at e'; cases e'; rw [c2] at c'; exact absurd c' (by decide)
    have z1 : its.toArray.size = xs.length := by rw [List.size_toArray]; exact rv.length.symm
    have z2 : its2.toArray.size = ys.length := by rw [List.size_toArray]; exact rv2.length.symm
    have D1 := draws_B (prog := X.prog) (w := X.w) (A := X.A.in1) t1 (I.ok.hd hc) i1 a n1 its.toArray
    have D2 := draws_B (prog := X.prog) (w := X.w) (A := X.A.in1) t2 (I.ok.hd hc) i2 b n2 its2.toArray
    refine wpAny_pyNext_zipD2_end D D1 D2 hz hTI hTO ⟨h1, p⟩ ⟨h2, p2⟩ (by omega) (by omega) (by omega) fun h' tk hk => ?_
    exact ⟨rfl, I.turnedL (t' := tk) (ch := [z, TI, TO, i1, i2]) (fun c o hb q => hk c o (fun q' => hb (by simp [q'])) (fun q' => hb (by simp [q'])) (fun q' => hb (by simp [q'])) (fun q' => hb (by simp [q'])) q) hf⟩
  self := fun A i s Q E st h => wpAny_pyIter_zip st.1 h
def iZipB (K : PySem.W.Frag) (ta : TA) : TI := fun σ H R => ta σ H fun vs H1 => ∃ a b xs ys t1 t2, vs = [.ref a, .ref b] ∧ SqB t1 K H1 a xs ∧ SqB t2 K H1 b ys ∧ R (ItzB t1 t2 K a b xs ys) H1
theorem pi_zipB {X : Cx} {e e2 : Expr} {ta : TA} {p pos tpos : Pos} {elts : List Expr} {kk : Nat} (hg : Gl X "zip") (hm : X.mg "zip" = none) (ha : PA X [e, e2] ta)
    (hs : starEach [e, e2] X.env = (false, eval e X.env) :: starEach [e2] X.env := by rfl) (hpl : (backTo pos (starEach [e2] X.env)).any (·.1) = false := by rfl) :
    PI X (.Tuple elts kk tpos) (.Call (.Name "zip" p) [e, e2] [] pos) (iZipB X.K ta) := by
  refine ⟨fun pins s σ H R I h => ?_⟩
  refine Call_ (ld_blt I hg hm PyProof.Rows.boot_zip (PyProof.Rows.callWith_type1 (thn (ha.run pos pins s σ H _ I h) fun us s1 ⟨vs, H1, I1, r1, q1⟩ => ?_) hs hpl))
  obtain ⟨a, b, xs, ys, t1, t2, ex, hqx, hqy, q⟩ := q1
  subst ex
  cases r1 with
  | cons r rr =>
    cases rr with
    | cons r' rr =>
      cases rr
      cases r
      cases r'
      have fresh5 : ∀ c, c ∈ [s1.heap.objs.size + 4, s1.heap.objs.size + 2, s1.heap.objs.size + 3, s1.heap.objs.size, s1.heap.objs.size + 1] → FpOk X pins H1 c := fun c hcm => by
        have e' : c = s1.heap.objs.size + 4 ∨ c = s1.heap.objs.size + 2 ∨ c = s1.heap.objs.size + 3 ∨ c = s1.heap.objs.size ∨ c = s1.heap.objs.size + 1 := by simpa using hcm
        have hle : s1.heap.objs.size ≤ c := by
          rcases e' with z | z | z | z | z
          · rw [z]; exact Nat.le_add_right _ _
          · rw [z]; exact Nat.le_add_right _ _
          · rw [z]; exact Nat.le_add_right _ _
          · rw [z]; exact Nat.le_refl _
          · rw [z]; exact Nat.le_add_right _ _
        exact I1.fpOk hle (I1.hok.fresh hle)
      obtain ⟨its, rv, p1, la⟩ := SqB.obj I1 hqx
      obtain ⟨its2, rv2, p2, lb⟩ := SqB.obj I1 hqy
      refine zip_begins2 (begins_B t1 a its.toArray) (begins_B t2 b its2.toArray) p1 p2 fun h' hz hTI hTO h1 h2 hsz hk => wpAny_pyIter_zip hz ?_
      have I2 : Inv X pins σ H1 { s1 with heap := h' } := I1.kept (t' := s1.toks) hk
      exact ⟨s1.heap.objs.size + 4, [s1.heap.objs.size + 4, s1.heap.objs.size + 2, s1.heap.objs.size + 3, s1.heap.objs.size, s1.heap.objs.size + 1], _, _, H1, rfl, I2,
        turn_zipB t1 t2 xs ys (zip_sep2 (fp1 := [a]) (fp2 := [b]) (fun c hc => by rw [List.mem_singleton.mp hc]; exact la) (fun c hc => by rw [List.mem_singleton.mp hc]; exact lb)), ⟨hz, hTI, ⟨_, _, hTO⟩, .start h1, .start h2⟩, fresh5, q⟩
/-- zip of two sequences of either kind -/
def zipAny : D → D → Option (List D) := fun x y => match itemsD x, itemsD y with
  | some xs, some ys => some (pairD xs ys)
  | _, _ => none
def iZipA (fa fb : Env → M D) : Env → M (List D) := fun ρ => M.bind (fa ρ) fun x => M.bind (fb ρ) fun y => M.lift (zipAny x y)
theorem rep_seqB {κ : Kc} {T : Option Addr} {F : Hp} {v : V} {d : D} {ds : List D} (r : Rep κ T F v d) (h : itemsD d = some ds) : ∃ (t : Bool) (a : Addr) (vs : List V), v = .ref a ∧ SqB t κ.K F a vs ∧ RepAll κ T F vs ds := by
  cases r with
  | tup s r => cases h; exact ⟨true, _, _, rfl, s, r⟩
  | lst s r => cases h; exact ⟨false, _, _, rfl, SqL.of s, r⟩
  | _ => cases h
theorem walk_zipB {K : PySem.W.Frag} {t1 t2 : Bool} {a b : Addr} {xs ys : List V} {n : Nat} (hn : n = min xs.length ys.length) : Walk (ItzB t1 t2 K a b xs ys) n (fun H => SqB t1 K H a xs ∧ SqB t2 K H b ys) (YPair (fun i => xs[i]?) (fun i => ys[i]?)) := by
  subst hn
  refine ⟨fun i H hi q => ⟨q, by omega, by omega⟩, fun H q => ⟨q, by omega, by omega, by omega⟩, fun i H v H' hi q y => ?_⟩
  obtain ⟨T, x, z, h1, h2, h3, h4, h5⟩ := y
  exact ⟨T, x, z, h3, h4, h5, h1, h2⟩
section
variable {X : Cx} {W : WX} {e e2 : Expr} {fa fb : Env → M D} {p pos tpos : Pos} {elts : List Expr} {kk : Nat}
theorem di_zipA (hg : Gl X "zip") (hm : X.mg "zip" = none) (ha : DE X W false e fa) (hb : DE X W false e2 fb)
    (hs : starEach [e, e2] X.env = (false, eval e X.env) :: starEach [e2] X.env := by rfl) (hs2 : starEach [e2] X.env = (false, eval e2 X.env) :: starEach [] X.env := by rfl) (hpl : (backTo pos (starEach [e2] X.env)).any (·.1) = false := by rfl) :
    DI X W (.Tuple elts kk tpos) (.Call (.Name "zip" p) [e, e2] [] pos) (DL.iZipA fa fb) := impPI (pi_zipB hg hm (pa_cons ha (pa_cons hb pa_nil hs2) hs) hs hpl) fun σ H R ⟨T, F, ρ, τ, s, q⟩ => by
  refine tD_mono (tD_of (m := false) s s.bs.refl q) fun x H1 ⟨F1, τ1, d, x1, y1, s1, r1, q1⟩ => ?_
  refine tD_mono (tD_of (m := false) s1 x1 q1) fun y H2 ⟨F2, τ2, d2, x2, y2, s2, r2, q2⟩ => ?_
  obtain ⟨zs, ez, q3⟩ := wpR_lift q2
  unfold zipAny at ez
  cases i1 : itemsD d with
  | none => rw [i1] at ez; cases ez
  | some ds =>
    cases i2 : itemsD d2 with
    | none => rw [i1, i2] at ez; cases ez
    | some es =>
      rw [i1, i2] at ez
      cases ez
      obtain ⟨t1, a, vs, rfl, hq, hr⟩ := rep_seqB r1 i1
      obtain ⟨t2, b, ws, rfl, hq2, hr2⟩ := rep_seqB r2 i2
      refine ⟨a, b, vs, ws, t1, t2, rfl, (hq.mono y2.le).mono s2.bs.le, hq2.mono s2.bs.le, q3 _ F2 H2 x2 ⟨YPair (fun i => vs[i]?) (fun i => ws[i]?), ?_, ypair (fun i d x h1 h2 => ?_) (fun i d x h1 h2 => ?_)⟩⟩
      rotate_left
      · obtain ⟨v, hv, rr⟩ := hr.get h1
        rw [h2] at hv
        cases hv
        exact rr.mono y2.le
      · obtain ⟨v, hv, rr⟩ := hr2.get h1
        rw [h2] at hv
        cases hv
        exact rr
      rw [pairD_len, ← hr.length, ← hr2.length]
      exact (walk_zipB rfl).mono (fun H le => ⟨(hq.mono y2.le).mono le, hq2.mono le⟩) fun _ _ _ _ _ _ y => y
end
end DL
end

section
set_option Elab.async false
set_option linter.all false
set_option maxRecDepth 100000
set_option maxHeartbeats 4000000
/-! DW: own errors raised and caught, len(set(..)) of ints, dicts of ints by comprehension -/
namespace DL
open PySem PySem.Spec PyProof.Rows L2
/-! ### own errors -/
/-- what is known of the class of an own error, a ValueError with nothing of its own -/
def ErrC (K : PySem.W.Frag) (mg : Str → Option Value) (x : Str) : Prop := ∃ C, mg x = some (.ref C) ∧ PySem.W.excIn K C [.type "ValueError", .type "Exception", .type "BaseException", .type "object"] "ValueError.__new__" = true ∧ PySem.W.keepIn K (.ref C) = true ∧
  PySem.W.subIn K (.ref C) (.type "BaseException") = some true ∧ PySem.W.typeIn K (.ref C) = some (.type "type") ∧ PySem.W.exmOne K (.ref C) (.ref C) = some true
theorem exm_own {K : PySem.W.Frag} {S : Addr} (h1 : PySem.W.subIn K (.ref S) (.type "BaseException") = some true) (h2 : PySem.W.isClsIn K S = true) (h3 : PySem.W.typeIn K (.ref S) = some (.type "type")) (h4 : PySem.W.subIn K (.ref S) (.ref S) = some true) : PySem.W.exmOne K (.ref S) (.ref S) = some true := by
  have a : (PySem.W.subIn K (.ref S) (.type "BaseException") == some true) = true := by rw [h1] <;> rfl
  have b : ((PySem.W.clsIn K S).isSome && PySem.W.typeIn K (.ref S) == some (.type "type")) = true := by
    have q : (PySem.W.clsIn K S).isSome = true := h2
    rw [q, h3] <;> rfl
  show (if (PySem.W.subIn K (.ref S) (.type "BaseException") == some true) = true then (if ((PySem.W.clsIn K S).isSome && PySem.W.typeIn K (.ref S) == some (.type "type")) = true then PySem.W.subIn K (.ref S) (.ref S) else none) else none) = some true
  rw [if_pos a, if_pos b]
  exact h4
theorem errC_mk {K : PySem.W.Frag} {mg : Str → Option Value} {x : Str} {C : Addr} (g : mg x = some (.ref C)) (q : PySem.W.excIn K C [.type "ValueError", .type "Exception", .type "BaseException", .type "object"] "ValueError.__new__" = true) (k : PySem.W.keepIn K (.ref C) = true)
    (b : PySem.W.subIn K (.ref C) (.type "BaseException") = some true) (t : PySem.W.typeIn K (.ref C) = some (.type "type")) (i : PySem.W.isClsIn K C = true) (s : PySem.W.subIn K (.ref C) (.ref C) = some true) : ErrC K mg x := ⟨C, g, q, k, b, t, exm_own b i t s⟩
section
variable {X : Cx} {W : WX}
/-- X() -/
theorem pmk_own0 {C : Addr} {bmB : List Value} {B newId initId : String} {x : Str} {p pos : Pos} (F : ExcBaseFacts B newId initId bmB) (q : PySem.W.excIn X.K C bmB newId = true) (gC : X.mg x = some (.ref C)) (kC : PySem.W.keepIn X.K (.ref C) = true) (r : Raises X (.ref C)) (hg : Gl X x)
    (hdb : (x == ("__debug__" : Str)) = false := by decide) :
    PMk X (.Call (.Name x p) [] [] pos) (fun σ H Q => Q (.ref C) none H) := by
  intro pins s σ H Q I h
  refine wpAny_Call_Name_kw (ld_glob I hg gC ?_ hdb)
  refine PySem.W.callWith_K0 I.kIn kC ?_
  show wpAny _ _ (call (.ref C) []) _ _ _
  obtain ⟨bm, N, nm, qn, bs, hdct, sn, sub, ab, col, dd, k0, k1, k2, k3, k5, mN, hC, hN, hni, T⟩ := exc_obj I.kIn q
  refine wpAny_call_exc_subT F T hC hN hni (fun h' e hm => ?_) (by show 0 ≤ sizeLine; exact Nat.zero_le _)
  exact mk_of I hm r h (I.hok.gone hm.new)
def sRaise (x : Str) : G := fun ρ τ => .exc x ρ τ
theorem ds_raise {x : Str} {p pos pos' : Pos} (e : ErrC X.K X.mg x) (hc : X.calm = true) (tk : Takes X W) (hg : Gl X x) (hdb : (x == ("__debug__" : Str)) = false := by decide) : DS X W (.Raise (some (.Call (.Name x p) [] [] pos)) none pos') (sRaise x) := by
  obtain ⟨C, g, q, k, b, t, _⟩ := e
  exact impPS (ps_raise hc tk (pmk_own0 PySem.F.excBase_ValueError q g k (raises_own b t) hg hdb)) fun D σ H ⟨T, Fp, F0, H0, F, ρ, τ, s, w⟩ => w F H σ _ s g
/-- try: g except x: h -/
def quiet (o : O) : O := match o with
  | .exc _ _ _ => .no
  | o => o
def caught (x : Str) (o : O) (h : G) : O := match o with
  | .exc e ρ τ => if e = x then quiet (h ρ τ) else .no
  | o => o
def sTry (x : Str) (g h : G) : G := fun ρ τ => caught x (g ρ τ) h
theorem wpO_quiet {κ : Kc} {mg : Str → Option Value} {W W' : WX} {T : Option Addr} {Fp F0 H0 : Hp} {D : Ends} {o : O} (h : wpO κ mg W T Fp F0 H0 D (quiet o)) : wpO κ mg W' T Fp F0 H0 D o := by
  cases o with
  | exc e ρ τ => exact h.elim
  | nx ρ τ => exact h
  | rt d τ => exact h
  | bk ρ τ => exact h
  | ct ρ τ => exact h
  | no => exact h
theorem ds_try {x : Str} {body suite : List Stmt} {b₀ : Stmt} {np pos pos' : Pos} {g h : G} (hs : X.stack = X.env :: X.outer) (hf : X.env.frame = some X.env.locals) (e : ErrC X.K X.mg x) (hg : Gl X x) (tk : Takes X W)
    (hb : ∀ (W : WX) (pn : List (Addr × Obj)) (xe : Value → Shared → Prop), Takes (X.tr pn xe) W → PassesOwn (model X.prog X.w) X.A X.env xe → DSs (X.tr pn xe) W body g)
    (hsu : ∀ (a : Addr) (oe : Obj) (pn : List (Addr × Obj)), DSs (X.suite a ((a, oe) :: pn)) noX (b₀ :: suite) h) (hdb : (x == ("__debug__" : Str)) = false := by decide) :
    DS X W (.Try body [.ExceptHandler (some (.Name x np)) none (b₀ :: suite) pos'] [] [] pos) (sTry x g h) := by
  obtain ⟨C, gC, q, k, b, t, ex⟩ := e
  refine impPS (ps_try_only (c := .ref C) (Wout := W) (tb := fun W => tS (kc X) X.mg W g) (ts := fun _ _ _ => tS (kc X) X.mg noX h) hs hf ⟨hg, hdb, .inl gC⟩ tk (fun W pn xe tk hp => hb W pn xe tk hp) (fun a oe cls d pn _ _ => hsu a oe pn)) fun D σ H ⟨T, Fp, F0, H0, F, ρ, τ, s, w⟩ => ?_
  refine ⟨T, Fp, F0, H0, F, ρ, τ, s, ?_⟩
  unfold sTry caught at w
  cases eg : g ρ τ with
  | exc e ρ1 τ1 =>
    rw [eg] at w
    have w2 : wpO (kc X) X.mg W T Fp F0 H0 D (if e = x then quiet (h ρ1 τ1) else .no) := w
    by_cases hx : e = x
    · rw [if_pos hx] at w2
      subst hx
      intro F' H' σ' cl s' hm
      rw [gC] at hm
      cases hm
      exact ⟨true, ex, fun _ a _ => ⟨T, Fp, F0, H0, F', ρ1, τ1, s', wpO_quiet w2⟩, fun z => nomatch z⟩
    · rw [if_neg hx] at w2
      exact w2.elim
  | nx ρ τ => rw [eg] at w; exact w
  | rt d τ => rw [eg] at w; exact w
  | bk ρ τ => rw [eg] at w; exact w
  | ct ρ τ => rw [eg] at w; exact w
  | no => rw [eg] at w; exact w.elim
end
/-! ### len(set(..)) of ints -/
theorem met_is (val : Nat → Int) : ∀ i, (PyProof.Rows.firstMet val i).Nodup ∧ ∀ z, z ∈ PyProof.Rows.firstMet val i ↔ z ∈ (List.range i).map val
  | 0 => ⟨List.nodup_nil, fun z => Iff.rfl⟩
  | i + 1 => by
    obtain ⟨h1, h2⟩ := met_is val i
    rw [PyProof.Rows.firstMet_succ]
    unfold PyProof.Rows.step_dedup
    have e : ∀ z, z ∈ (List.range (i + 1)).map val ↔ z ∈ (List.range i).map val ∨ z = val i := fun z => by
      rw [List.range_succ, List.map_append, List.mem_append]
      simp
    split
    · rename_i h
      obtain ⟨y, hy, ey⟩ := List.any_eq_true.mp h
      have ey := eq_of_beq ey
      refine ⟨h1, fun z => ?_⟩
      rw [e, ← h2]
      constructor
      · exact .inl
      · rintro (q | q)
        · exact q
        · rw [q, ← ey]; exact hy
    · rename_i h
      refine ⟨List.nodup_append.mpr ⟨h1, by simp, fun a ha b hb => ?_⟩, fun z => ?_⟩
      · rw [List.mem_singleton] at hb
        intro z
        refine h (List.any_eq_true.mpr ⟨a, ha, ?_⟩)
        rw [z, hb]
        exact beq_self_eq_true _
      · rw [e, List.mem_append, h2, List.mem_singleton]
theorem vals_ints : ∀ {ns : List Int} {us : List Value}, Vals (ns.map V.int) us → PyProof.Rows.IntsAre us ns
  | [], _, .nil => .nil
  | n :: ns, _, .cons r t => by
    obtain ⟨k, rfl⟩ := r
    exact .cons n k (vals_ints t)
theorem sorted_nodup {l : List Int} (h : l.Pairwise (· < ·)) : l.Nodup := h.imp fun h => by omega
theorem met_len (ns : List Int) : (PyProof.Rows.firstMet (fun i => ns.getD i 0) ns.length).length = (sortI ns).length := by
  obtain ⟨h1, h2⟩ := met_is (fun i => ns.getD i 0) ns.length
  refine (perm_nodup h1 (sorted_nodup (sortI_lt ns)) fun z => ?_).length_eq
  rw [h2, mem_sortI]
  have : (List.range ns.length).map (fun i => ns.getD i 0) = ns := by
    refine List.ext_getElem (by simp) fun i h1 h2 => ?_
    simp [List.getD_eq_getElem?_getD, List.getElem?_eq_getElem h2]
  rw [this]
def lenSetL : D → M D
  | .lst xs => (match intsOf xs with
    | some ns => if ns.length < 64 then M.pure (.int (sortI ns).length) else M.no
    | none => M.no)
  | _ => M.no
def dLenSet (fa : Env → M D) : Env → M D := fun ρ => M.bind (fa ρ) lenSetL
section
variable {X : Cx} {W : WX} {m : Bool} {a : Expr} {fa : Env → M D} {p p2 q pos : Pos}
theorem de_lenSet (hc : X.calm = true) (hg : Gl X "len") (hm : X.mg "len" = none) (hg2 : Gl X "set") (hm2 : X.mg "set" = none) (ha : DE X W true a fa)
    (na : starEach [a] X.env = (false, eval a X.env) :: starEach [] X.env := by rfl) : DE X W m (.Call (.Name "len" p) [.Call (.Name "set" p2) [a] [] q] [] pos) (dLenSet fa) := by
  refine ⟨fun pins s σ H Q I h => ?_⟩
  refine Call_ (ld_blt I hg hm boot_len ?_)
  refine PyProof.Rows.callWith_builtin1 (PyProof.Rows.args_cons ?_ rfl) rfl rfl
  refine Call_ (ld_blt I hg2 hm2 boot_set ?_)
  obtain ⟨T, F, ρ, τ, s0, w⟩ := h
  refine PyProof.Rows.callWith_type1 (PyProof.Rows.args_cons (thn (ha.run pins s σ H _ I (tD_of s0 s0.bs.refl w)) fun v s1 ⟨x, H1, I1, r1, F1, τ1, d, x1, y1, sr1, rd, w1⟩ => PyProof.Rows.args_nil ?_) na) na rfl
  cases d with
  | lst xs =>
    obtain ⟨l, vs, rfl, hq, rv⟩ := RepTop.lst rd sr1.bs.le
    have w1 : wpR ((match intsOf xs with | some ns => if ns.length < 64 then M.pure (D.int (sortI ns).length) else M.no | none => M.no) τ1) _ _ := w1
    cases ei : intsOf xs with
    | none => rw [ei] at w1; exact w1.elim
    | some ns =>
      rw [ei] at w1
      have w1 : wpR ((if ns.length < 64 then M.pure (D.int (sortI ns).length) else M.no) τ1) (fun d τ' => ∀ v F' H', Ext T F H F' H' τ' → RepM m (kc X) T F' H' v d → Q v H') (wX X.mg W T F H σ) := w1
      split at w1
      · rename_i hl
        have ev : vs = ns.map V.int := by
          rw [intsOf_eq ei] at rv
          exact rv.ints
        cases r1
        obtain ⟨its, r, pl, hz⟩ := I1.list (SqL.of hq)
        rw [ev] at r
        have hlen : its.toArray.size = ns.length := by rw [List.size_toArray, ← r.length, List.length_map]
        refine call_set_list (I1.ok.hd hc) pl.isList (by simpa using vals_ints r) (by rw [hlen]; unfold scanBound; omega) fun h' tk hS hk => ?_
        refine PyProof.Rows.args_nil ?_
        rw [hlen] at hS
        obtain ⟨o, es, ep, t, ho, hex, hd, _, _, _, hf, hn⟩ := hS
        have I2 : Inv X pins σ H1 { s1 with heap := h', toks := tk } := I1.kept fun b o e => hk b o (Heap.lt_size e) e
        have hle := PyProof.Rows.firstMet_length_le (fun i => ns.getD i 0) ns.length
        refine call_len_set ho hex hd hf (by rw [hn]; omega) ⟨.int ((sortI ns).length : Nat), H1, I2.tok _, ⟨_, by rw [hn, met_len]⟩, ?_⟩
        exact w1 _ F1 H1 x1 (repM (.int _))
      · exact w1.elim
  | _ => exact w1.elim
end
/-! ### {k: v for ..}, all ints -/
def putI (ps : List (Int × Int)) (i j : Int) : List (Int × Int) := if (ps.any fun p => decide (p.1 = i)) = true then ps.map fun p => if p.1 = i then (p.1, j) else p else ps ++ [(i, j)]
theorem dV_put (ps : List (Int × Int)) (i j : Int) : putK (dV ps) (.inl i) (.int j) = dV (putI ps i j) := by
  unfold putK putI
  have e : ((dV ps).any fun kv => decide (kv.1 = (Sum.inl i : Key))) = ps.any fun p => decide (p.1 = i) := by
    unfold dV
    rw [List.any_map]
    congr 1
    funext p
    simp only [Function.comp, Sum.inl.injEq]
  rw [e]
  split
  · unfold dV
    rw [List.map_map, List.map_map]
    refine List.map_congr_left fun p _ => ?_
    simp only [Function.comp, Sum.inl.injEq]
    split <;> rfl
  · unfold dV
    rw [List.map_append]
    rfl
def dcM (g : D → Env → Option Env) (t : Env → M Bool) (fk fv : Env → M D) : List D → Env → List (Int × Int) → M (List (Int × Int))
  | [], _, ps => M.pure ps
  | d :: ds, ρ, ps => match g d ρ with
    | none => M.no
    | some ρ' => M.bind (calm (t ρ')) fun c => if c = true then M.bind (calm (fk ρ')) fun k => M.bind (calm (fv ρ')) fun v => match k, v with
        | .int i, .int j => dcM g t fk fv ds ρ (putI ps i j)
        | _, _ => M.no
      else dcM g t fk fv ds ρ ps
def dDc (fi : Env → M (List D)) (own : List Nat) (g : D → Env → Option Env) (t : Env → M Bool) (fk fv : Env → M D) : Env → M D := fun ρ => M.bind (fi ρ) fun ds => if fits ds = true then M.bind (dcM g t fk fv ds (wipeS ρ own) []) fun ps => M.pure (.dct ps) else M.no
theorem Ext.takeO {T : Option Addr} {F H F' H' : Hp} {τ' : Tin} {a : Addr} {o : HO} (x : Ext T F H F' H' τ') (h0 : H a = none) (h1 : F' a = none) (h2 : H' a = some o) (h3 : T ≠ some a) : Ext T F H (upd F' a o) H' τ' ∧ Same F' (upd F' a o) := by
  have le : Same F' (upd F' a o) := fun c u q => by
    by_cases h : c = a
    · subst h; rw [h1] at q; cases q
    · rw [upd_ne h]; exact q
  refine ⟨⟨x.keep, x.le.trans le, fun c u q => ?_, fun c u q => ?_, fun c q => ?_⟩, le⟩
  · by_cases h : c = a
    · subst h; rw [upd_same] at q; cases q; exact h2
    · rw [upd_ne h] at q; exact x.sub _ _ q
  · by_cases h : c = a
    · subst h; exact .inr h0
    · rw [upd_ne h] at q; exact x.new _ _ q
  · obtain ⟨z1, z2⟩ := x.tn c q
    refine ⟨?_, z2⟩
    rw [upd_ne (fun h => h3 (by rw [q, h]))]
    exact z1
theorem length_putI (ps : List (Int × Int)) (i j : Int) : (putI ps i j).length ≤ ps.length + 1 := by
  unfold putI
  split
  · rw [List.length_map]; omega
  · rw [List.length_append, List.length_singleton]; exact Nat.le_refl _
section
variable {X : Cx} {W : WX} {m : Bool} {tg iter kx vx : Expr} {ifs : List Expr} {fi : Env → M (List D)} {g : D → Env → Option Env} {t : Env → M Bool} {fk fv : Env → M D} {is : List Nat} {own : List (Str × Nat)} {scope : Scope} {pos : Pos}
theorem dc_it {J : It} {n : Nat} {G : Hp → Prop} {Y : Nat → Hp → V → Hp → Prop} (w : Walk J n G Y) {g : TG} {tt : TT} {tk tv : TE} {vs : List Nat} {σ : L2.St} {H1 : Hp} {D : Addr} {Qd : Hp → Prop} (Pv : Nat → Hp → Prop) (h0 : Pv 0 (upd H1 D (.dK []))) (hG : ∀ i H, i ≤ n → Pv i H → G H)
    (hs : ∀ i x H H', i < n → Pv i H → Y i H x H' → g x (wipe σ vs) H' fun σ2 H2 => wipe σ2 vs = wipe σ vs ∧ tt σ2 H2 fun b H3 =>
      if b = true then tk σ2 H3 fun y H4 => tv σ2 H4 fun z H5 => ∃ kvs k, y = kV k ∧ H5 D = some (.dK kvs) ∧ kvs.length < sizeLine ∧ Pv (i + 1) (upd H5 D (.dK (putK kvs k z))) else Pv (i + 1) H3) (hd : ∀ H, Pv n H → Qd H) :
    ∃ W : Nat → Nat → Hp → Prop, (∃ m, W 0 m (upd H1 D (.dK []))) ∧ ∀ i m H, W i m H →
      (J.stop i H ∧ Qd H) ∨ (J.go i H ∧ ∃ Nx : Hp → Prop, (∀ H', Nx H' → ∃ m', m' < m ∧ W (i + 1) m' H') ∧ ∀ x H', J.yld i H x H' → g x (wipe σ vs) H' fun σ2 H2 => wipe σ2 vs = wipe σ vs ∧ tt σ2 H2 fun b H3 =>
        if b = true then tk σ2 H3 fun y H4 => tv σ2 H4 fun z H5 => ∃ kvs k, y = kV k ∧ H5 D = some (.dK kvs) ∧ kvs.length < sizeLine ∧ Nx (upd H5 D (.dK (putK kvs k z))) else Nx H3) := by
  refine ⟨fun i m H => m = n - i ∧ i ≤ n ∧ Pv i H, ⟨n, by simp, Nat.zero_le _, h0⟩, ?_⟩
  rintro i m H ⟨rfl, hi, p⟩
  have q := hG i H hi p
  by_cases hlt : i < n
  · exact .inr ⟨w.goes i H hlt q, Pv (i + 1), fun H' p' => ⟨n - (i + 1), by omega, rfl, hlt, p'⟩, fun x H' y => hs i x H H' hlt p (w.yields i H x H' hlt q y)⟩
  · have e : i = n := by omega
    subst e
    exact .inl ⟨w.stops H q, hd H p⟩
theorem tDc_of {σ : L2.St} {H : Hp} {Q : VK} (his : ∀ i ∈ is, i ∈ own.map (·.2)) (q : tD (kc X) X.mg W m (dDc fi (own.map (·.2)) g t fk fv) σ H Q) :
    tDc (tI (kc X) X.mg W fi) (tG (kc X) is g) (tDT (kc X) X.mg noX t) (tD (kc X) X.mg noX false fk) (tD (kc X) X.mg noX false fv) (own.map (·.2)) σ H Q := by
  generalize hv : own.map (·.2) = vs at his q ⊢
  obtain ⟨T, F, ρ, τ, s, q⟩ := q
  refine ⟨T, F, ρ, τ, s, wpR_mono (wpR_bind q) (fun ds τ1 q J F1 H1 x1 ⟨Y, wk, yd⟩ D hD => ?_) fun _ _ z => z⟩
  split at q
  · rename_i hf
    have b1 := x1.bs
    have hD0 := was_free x1 hD
    have hTD := T_ne b1 hD
    have s1 := s.ext x1
    have eX := s1.wipe vs
    refine dc_it wk (fun i Hn => ∃ Fn τn ps, SR (kc X) T Fn Hn (wipe σ vs) (wipeS ρ vs) τn ∧ Ext T F H Fn Hn τn ∧ Same F1 Fn ∧ Hn D = some (.dK (dV ps)) ∧ Fn D = none ∧ ps.length ≤ i ∧
        wpR (M.bind (dcM g t fk fv (ds.drop i) (wipeS ρ vs) ps) (fun xs => M.pure (DL.D.dct xs)) τn) (fun d τ' => ∀ v F' H', Ext T F H F' H' τ' → RepM m (kc X) T F' H' v d → Q v H') (fun _ _ => True))
      ⟨F1, τ1, [], eX.ext (b1.aside hD), x1.trans (b1.aside hD), Same.refl _, upd_same, Same.free b1.le hD, Nat.le_refl _, ?_⟩
      (fun i Hn _ ⟨Fn, τn, ps, sn, xn, le, _⟩ => le.trans sn.bs.le) (fun i x Hn Hm hi ⟨Fn, τn, ps, sn, xn, le, hDn, fDn, hl, qn⟩ y => ?_) (fun Hn ⟨Fn, τn, ps, sn, xn, le, hDn, fDn, hl, qn⟩ => ?_)
    · exact wpR_mono q (fun _ _ z => z) fun _ _ _ => trivial
    · have hd : ds[i]? = some ds[i] := List.getElem?_eq_getElem hi
      obtain ⟨F3, x3, r3⟩ := yd i _ Hn x Hm Fn τn hd y sn.bs le
      have s3 := sn.ext x3
      have hD3 : Hm D = some (.dK (dV ps)) := x3.keep _ _ hDn hTD
      have free3 : ∀ {Fa Ha Fb Hb : Hp} {τb : Tin}, Ext T Fa Ha Fb Hb τb → Fa D = none → (∃ u, Ha D = some u) → Fb D = none := fun {Fa Ha Fb Hb τb} xx h1 ⟨u, h2⟩ => by
        cases z : Fb D with
        | none => rfl
        | some o =>
          rcases xx.new D o z with w | w
          · rw [h1] at w; cases w
          · rw [h2] at w; cases w
      have fD3 := free3 x3 fDn ⟨_, hDn⟩
      rw [List.drop_eq_getElem_cons hi] at qn
      unfold dcM at qn
      cases eg : g ds[i] (wipeS ρ vs) with
      | none => rw [eg] at qn; exact qn.elim
      | some ρ3 =>
        rw [eg] at qn
        refine ⟨T, F3, wipeS ρ vs, τn, ds[i], s3, r3, ρ3, eg, fun σ4 s4 a4 => ?_⟩
        have ew : wipe σ4 vs = wipe σ vs := (wipe_same vs a4.1 fun j hj => (a4.2.2.1 j fun z => hj (his j z)).1).trans (wipe_same vs (wipe_length σ vs) fun j hj => wipe_out vs hj)
        refine ⟨ew, T, F3, ρ3, τn, s4, ?_⟩
        have q2 := wpR_bind (wpR_bind qn)
        refine wpR_mono (wpR_calm (E' := fun _ _ => False) q2) (fun c τ4 q3 F4 H4 x4 => ?_) fun _ _ z => z.elim
        have hD4 : H4 D = some (.dK (dV ps)) := x4.keep _ _ hD3 hTD
        have fD4 := free3 x4 fD3 ⟨_, hD3⟩
        cases c with
        | false =>
          refine ⟨F4, τ4, ps, (s3.ext x4), (xn.trans x3).trans x4, (le.trans x3.le).trans x4.le, hD4, fD4, Nat.le_succ_of_le hl, ?_⟩
          have q3 : wpR (dcM g t fk fv (ds.drop (i + 1)) (wipeS ρ vs) ps τ4) _ _ := q3
          unfold M.bind
          cases e : dcM g t fk fv (ds.drop (i + 1)) (wipeS ρ vs) ps τ4 with
          | ok a τ5 => rw [e] at q3; exact q3
          | exc a τ5 => trivial
          | no => rw [e] at q3; exact q3
        | true =>
          have q4 := wpR_bind q3
          refine ⟨T, F4, ρ3, τ4, s4.ext x4, wpR_mono (wpR_calm (E' := fun _ _ => False) q4) (fun d5 τ5 q5 y5 F5 H5 x5 r5 => ?_) fun _ _ z => z.elim⟩
          have q5 := wpR_bind q5
          refine ⟨T, F5, ρ3, τ5, (s4.ext x4).ext x5, wpR_mono (wpR_calm (E' := fun _ _ => False) q5) (fun d6 τ6 q6 y6 F6 H6 x6 r6 => ?_) fun _ _ z => z.elim⟩
          cases d5 with
          | int ki =>
            cases d6 with
            | int vi =>
              cases r5
              cases r6
              have hD5 : H5 D = some (.dK (dV ps)) := x5.keep _ _ hD4 hTD
              have fD5 := free3 x5 fD4 ⟨_, hD4⟩
              have hD6 : H6 D = some (.dK (dV ps)) := x6.keep _ _ hD5 hTD
              have fD6 := free3 x6 fD5 ⟨_, hD5⟩
              have xx := (((xn.trans x3).trans x4).trans x5).trans x6
              have s6 := ((s3.ext x4).ext x5).ext x6
              have bs : Bs T F6 (upd H6 D (.dK (dV (putI ps ki vi)))) τ6 := ⟨fun c o z => by
                have : c ≠ D := fun w => by subst w; rw [fD6] at z; cases z
                rw [upd_ne this]; exact s6.bs.le _ _ z, fun c z => ⟨(s6.bs.tn c z).1, by
                  have : c ≠ D := fun w => by subst w; exact hTD z
                  rw [upd_ne this]; exact (s6.bs.tn c z).2⟩⟩
              have zl : (dV ps).length = ps.length := List.length_map _
              have fl := fits_le hf
              refine ⟨dV ps, .inl ki, rfl, hD6, by omega, ?_⟩
              rw [dV_put]
              refine ⟨F6, τ6, putI ps ki vi, ⟨bs, s6.len, fun j x h => ?_, s6.apart⟩, ⟨fun c o z n => ?_, xx.le, bs.le, xx.new, bs.tn⟩, (((le.trans x3.le).trans x4.le).trans x5.le).trans x6.le, upd_same, fD6, ?_, ?_⟩
              · obtain ⟨u, hu, z⟩ := s6.slot j x h
                refine ⟨u, hu, ?_⟩
                cases x with
                | un => trivial
                | d d => exact z
                | own zs =>
                  obtain ⟨c, us, e1, e2, e3, e4, e5⟩ := z
                  have hne : c ≠ D := fun w => by
                    subst w
                    obtain ⟨u0, hu0, c0, us0, f1, f2, _⟩ := eX.slot j _ h
                    rw [hu] at hu0
                    cases hu0
                    rw [e1] at f1
                    cases f1
                    rw [hD] at f2
                    cases f2
                  exact ⟨c, us, e1, by rw [upd_ne hne]; exact e2, e3, e4, e5⟩
              · have : c ≠ D := fun w => by subst w; rw [hD0] at z; cases z
                rw [upd_ne this]
                exact xx.keep _ _ z n
              · have := length_putI ps ki vi
                omega
              · have q6 : wpR (dcM g t fk fv (ds.drop (i + 1)) (wipeS ρ vs) (putI ps ki vi) τ6) _ _ := q6
                unfold M.bind
                cases e : dcM g t fk fv (ds.drop (i + 1)) (wipeS ρ vs) (putI ps ki vi) τ6 with
                | ok a τ5 => rw [e] at q6; exact q6
                | exc a τ5 => trivial
                | no => rw [e] at q6; exact q6
            | _ => exact q6.elim
          | _ => exact q6.elim
    · rw [List.drop_length] at qn
      have qn : ∀ v F' H', Ext T F H F' H' τn → RepM m (kc X) T F' H' v (.dct ps) → Q v H' := qn
      obtain ⟨x9, le9⟩ := xn.takeO hD0 fDn hDn hTD
      exact qn _ _ _ x9 (repM (.dct upd_same))
  · exact q.elim
theorem de_dc (hc : X.calm = true) (hN : X.N.Nodup) (hi : DI X W tg iter fi) (ok : BlkOk X.N X.env.scope scope own) (his : ∀ i ∈ is, i ∈ own.map (·.2))
    (hg : ∀ (s : Shared) (H : Hp) (C : Addr) (cl : List (Str × Addr)) (fp : List Addr), DG (X.blk s H scope (compEnvC scope cl C X.env) fp) is tg g)
    (ht : ∀ (s : Shared) (H : Hp) (C : Addr) (cl : List (Str × Addr)) (fp : List Addr), DTs (X.blk s H scope (compEnvC scope cl C X.env) fp) ifs t)
    (hk : ∀ (s : Shared) (H : Hp) (C : Addr) (cl : List (Str × Addr)) (fp : List Addr), DE (X.blk s H scope (compEnvC scope cl C X.env) fp) noX false kx fk)
    (he : ∀ (s : Shared) (H : Hp) (C : Addr) (cl : List (Str × Addr)) (fp : List Addr), DE (X.blk s H scope (compEnvC scope cl C X.env) fp) noX false vx fv) (hs : ∀ x, foldedSetIterable iter X.env x = pure x := by intro _; rfl) :
    DE X W m (.DictComp kx vx [⟨tg, iter, ifs, 0⟩] scope pos) (dDc fi (own.map (·.2)) g t fk fv) := impPE (pe_dc hc hN hi ok hg ht hk he hs) fun σ H Q q => tDc_of his q
end
end DL
end

section
set_option Elab.async false
set_option linter.all false
set_option maxRecDepth 100000
set_option maxHeartbeats 4000000
/-! DX: a list of one's own walked by a comprehension that gives out no list -/
namespace DL
open PySem PySem.Spec PyProof.Rows L2
section
variable {κ : Kc} {mg : Str → Option Value} {W : WX} {T : Option Addr} {F H : Hp} {σ : L2.St} {ρ : Env} {τ : Tin}
theorem SR.frz (s : SR κ T F H σ ρ τ) (i : Nat) : SR κ T F H σ (DL.frz i ρ) τ ∨ ∃ a vs, F a = none ∧ H a = some (.lst vs) ∧ T ≠ some a ∧ SR κ T (upd F a (.lst vs)) H σ (DL.frz i ρ) τ := by
  unfold DL.frz
  cases hi : ρ[i]? with
  | none => exact .inl s
  | some u =>
    cases u with
    | un => exact .inl s
    | d d => exact .inl s
    | own xs =>
      obtain ⟨v, hv, a, vs, rfl, h1, h2, h3, h4⟩ := s.slot i _ hi
      refine .inr ⟨a, vs, h2, h1, h3, ?_⟩
      have le : Same F (upd F a (.lst vs)) := fun c o q => by rw [upd_ne (ne_of_none q h2)]; exact q
      refine ⟨⟨fun c o q => ?_, fun c q => ⟨?_, (s.bs.tn c q).2⟩⟩, by rw [List.length_set, s.len], fun j x h => ?_, fun j k ys zs b q1 q2 q3 q4 => ?_⟩
      · by_cases hc : c = a
        · subst hc; rw [upd_same] at q; rw [h1]; exact q
        · rw [upd_ne hc] at q; exact s.bs.le _ _ q
      · have : c ≠ a := fun z => by subst z; exact h3 q
        rw [upd_ne this]; exact (s.bs.tn c q).1
      · rcases get_set h with ⟨e, e2, hl⟩ | ⟨ne, h⟩
        · subst e e2
          exact ⟨_, hv, _, rfl, .lst upd_same (h4.mono le)⟩
        · obtain ⟨u, hu, q⟩ := s.slot j x h
          refine ⟨u, hu, ?_⟩
          cases x with
          | un => trivial
          | d d => obtain ⟨x, e1, e2⟩ := q; exact ⟨x, e1, e2.mono le⟩
          | own zs =>
            obtain ⟨c, us, e1, e2, e3, e4, e5⟩ := q
            subst e1
            have nc : c ≠ a := fun z => by subst z; exact ne (s.apart i j xs zs c hi h hv hu)
            exact ⟨c, us, rfl, e2, by rw [upd_ne nc]; exact e3, e4, e5.mono le⟩
      · rcases get_set q1 with ⟨_, e, _⟩ | ⟨_, z1⟩
        · cases e
        · rcases get_set q2 with ⟨_, e, _⟩ | ⟨_, z2⟩
          · cases e
          · exact s.apart j k ys zs b z1 z2 q3 q4
/-- what stays, but for the list at a -/
def less (F : Hp) (a : Addr) : Hp := fun c => if c = a then none else F c
theorem less_ne {a c : Addr} (h : c ≠ a) : less F a c = F c := by unfold less; rw [if_neg h]
theorem less_at {a : Addr} : less F a a = none := by unfold less; rw [if_pos rfl]
theorem ext_less {F' H' : Hp} {τ' : Tin} {a : Addr} {vs : List V} (h1 : F a = none) (x : Ext T (upd F a (.lst vs)) H F' H' τ') : Ext T F H (less F' a) H' τ' := by
  refine ⟨x.keep, fun c o q => ?_, fun c o q => ?_, fun c o q => ?_, fun c q => ?_⟩
  · have nc : c ≠ a := fun z => by subst z; rw [h1] at q; cases q
    rw [less_ne nc]
    exact x.le _ _ (by rw [upd_ne nc]; exact q)
  · by_cases hc : c = a
    · subst hc; rw [less_at] at q; cases q
    · rw [less_ne hc] at q; exact x.sub _ _ q
  · by_cases hc : c = a
    · subst hc; rw [less_at] at q; cases q
    · rw [less_ne hc] at q
      rcases x.new c o q with z | z
      · rw [upd_ne hc] at z; exact .inl z
      · exact .inr z
  · obtain ⟨z1, z2⟩ := x.tn c q
    refine ⟨?_, z2⟩
    by_cases hc : c = a
    · subst hc; exact less_at
    · rw [less_ne hc]; exact z1
theorem seqT_less {F' : Hp} {a p : Addr} {us vs : List V} (ha : F' a = some (.lst us)) (h : SqT κ.K F' p vs) : SqT κ.K (less F' a) p vs := by
  rcases h with (h | ⟨o, h⟩) | h
  · exact .inl (.inl (by rw [less_ne (fun z => by subst z; rw [ha] at h; cases h)]; exact h))
  · exact .inl (.inr ⟨o, by rw [less_ne (fun z => by subst z; rw [ha] at h; cases h)]; exact h⟩)
  · exact .inr h
mutual
theorem Rep.less {F' : Hp} {a : Addr} {us : List V} (ha : F' a = some (.lst us)) : ∀ {v : V} {d : D}, Rep κ T F' v d → flatD d = true → Rep κ T (DL.less F' a) v d
  | _, _, .non, _ => .non
  | _, _, .bl b, _ => .bl b
  | _, _, .int b, _ => .int b
  | _, _, .str b, _ => .str b
  | _, .tup ds, .tup h r, q => by
    rw [flatD] at q
    exact .tup (seqT_less ha h) (RepAll.less ha r q)
  | _, _, .lst h r, q => by rw [flatD] at q; cases q
  | _, _, .scr h, q => by rw [flatD] at q; cases q
  | _, _, .tin h, q => by rw [flatD] at q; cases q
  | _, _, .dct h, q => by rw [flatD] at q; cases q
theorem RepAll.less {F' : Hp} {a : Addr} {us : List V} (ha : F' a = some (.lst us)) : ∀ {vs : List V} {ds : List D}, RepAll κ T F' vs ds → flatDs ds = true → RepAll κ T (DL.less F' a) vs ds
  | _, _, .nil, _ => .nil
  | _, d :: ds, .cons r t, q => by
    rw [flatDs, Bool.and_eq_true] at q
    exact .cons (Rep.less ha r q.1) (RepAll.less ha t q.2)
end
def flatsM (ds : List D) : M (List D) := if flatDs ds = true then M.pure ds else M.no
/-- the list in slot i is known to the object while f runs -/
def fThaw (i : Nat) (f : Env → M (List D)) : Env → M (List D) := fun ρ => M.bind (f (frz i ρ)) flatsM
theorem wpR_flats {r : R (List D)} {P : List D → Tin → Prop} {E : Str → Tin → Prop} (h : wpR r (fun ds τ => wpR (flatsM ds τ) P E) E) : wpR r (fun ds τ => flatDs ds = true ∧ P ds τ) E := wpR_mono h (fun ds τ q => by
  unfold flatsM at q
  split at q
  · rename_i hf; exact ⟨hf, q⟩
  · exact q.elim) fun _ _ z => z
theorem tF_thaw {i : Nat} {f : Env → M (List D)} {Q : VK} (q : tF κ mg W (fThaw i f) σ H Q) : tF κ mg W f σ H Q := by
  obtain ⟨T, F, ρ, τ, s, q⟩ := q
  have q := wpR_flats (wpR_bind q)
  rcases s.frz i with s1 | ⟨a, us, h1, h2, h3, s1⟩
  · exact ⟨T, F, _, τ, s1, wpR_mono q (fun ds τ' z => z.2) fun _ _ z => z⟩
  · refine ⟨T, _, _, τ, s1, wpR_mono q (fun ds τ' ⟨hf, z⟩ b vs F' H' x g0 g1 g2 g3 r => ?_) fun e τ' z F' H' cl x m => z _ H' cl (ext_less h1 x) m⟩
    have ha : F' a = some (.lst us) := x.le _ _ upd_same
    refine z b vs _ H' (ext_less h1 x) g0 ?_ g2 g3 (RepAll.less ha r hf)
    by_cases hc : b = a
    · rw [hc]; exact less_at
    · rw [less_ne hc]; exact g1
end
section
variable {X : Cx} {W : WX} {e : Expr} {f : Env → M (List D)}
theorem df_thaw (i : Nat) (h : DF X W e f) : DF X W e (fThaw i f) := impPE h fun σ H Q q => tF_thaw q
variable {tg iter elt : Expr} {ifs : List Expr} {fi : Env → M (List D)} {g : D → Env → Option Env} {t : Env → M Bool} {fe : Env → M D} {is : List Nat} {own : List (Str × Nat)} {scope : Scope} {y : Str} {pos py spos : Pos}
theorem ds_setLcT (k i : Nat) (hN : X.N.Nodup) (hc : X.calm = true) (hi : DI X W tg iter fi) (ok : BlkOk X.N X.env.scope scope own) (his : ∀ i ∈ is, i ∈ own.map (·.2))
    (hg : ∀ (s : Shared) (H : Hp) (C : Addr) (cl : List (Str × Addr)) (fp : List Addr), DG (X.blk s H scope (compEnvC scope cl C X.env) fp) is tg g)
    (ht : ∀ (s : Shared) (H : Hp) (C : Addr) (cl : List (Str × Addr)) (fp : List Addr), DTs (X.blk s H scope (compEnvC scope cl C X.env) fp) ifs t)
    (he : ∀ (s : Shared) (H : Hp) (C : Addr) (cl : List (Str × Addr)) (fp : List Addr), DE (X.blk s H scope (compEnvC scope cl C X.env) fp) noX false elt fe)
    (hy : X.N[i]? = some y := by rfl) (hyl : X.env.scope.names.lookup y = some .local := by rfl)
    (hsw : swapsWith (.ListComp elt [⟨tg, iter, ifs, 0⟩] scope pos) (some (.Name y py)) spos.line X.env = pure true := by exact sw_true rfl rfl rfl (by decide +kernel)) (hs : ∀ x, foldedSetIterable iter X.env x = pure x := by intro _; rfl) :
    DS X W (.Assign [.Name y py] (.ListComp elt [⟨tg, iter, ifs, 0⟩] scope pos) spos) (sSetF i (fThaw k (fComp fi (own.map (·.2)) g t fe))) := impPS (ps_setLc hc hN hy hyl hsw hi ok hg ht he hs) fun D σ H ⟨T, Fp, F0, H0, F, ρ, τ, s, q⟩ => by
  refine tLc_of (W := W) his (tF_thaw (tF_mono (bF_of s q) fun v H1 ⟨F1, τ1, a, vs, ds, ex, x1, s1, h0, h1, h2, h3, r1, q1⟩ => ?_))
  subst ex
  obtain ⟨x2, le⟩ := x1.take h0 h1 h2 h3
  exact q1 _ H1 _ ((s.ext x2).set i (.lst upd_same (r1.mono le)))
end
end DL
end

section
set_option Elab.async false
set_option linter.all false
set_option maxRecDepth 100000
set_option maxHeartbeats 4000000
/-! DY: three local names at once -/
namespace DL
open PySem PySem.Spec PyProof.Rows L2
section
variable {X : Cx} {W : WX} {fs : Env → M (List S)} {pos : Pos}
theorem ds_par3 {i j l : Nat} {x y z : Str} {a b c : Expr} {px py pz pt pt2 : Pos} {kt k2 : Nat} (hc : X.calm = true) (hN : X.N.Nodup) (hi : X.N[i]? = some x) (hj : X.N[j]? = some y) (hk : X.N[l]? = some z) (hij : i ≠ j) (hil : i ≠ l) (hjl : j ≠ l)
    (hx : X.env.scope.names.lookup x = some .local) (hy : X.env.scope.names.lookup y = some .local) (hz : X.env.scope.names.lookup z = some .local) (ha : DX X W [a, b, c] fs)
    (hun : ∀ ρ τ ss τ', fs ρ τ = .ok ss τ' → ∀ s ∈ ss, s ≠ .un)
    (hw : swappedStores [.Tuple [.Name x px, .Name y py, .Name z pz] kt pt] (.Tuple [a, b, c] k2 pt2) X.env = pure (some [x, y, z])) (hs : swapsWithSole [.Tuple [.Name x px, .Name y py, .Name z pz] kt pt] (.Tuple [a, b, c] k2 pt2) pos.line X.env = pure false := by rfl) :
    DS X W (.Assign [.Tuple [.Name x px, .Name y py, .Name z pz] kt pt] (.Tuple [a, b, c] k2 pt2) pos) (sMany [i, j, l] fs) := impPS (ps_par3 hc hN hi hj hk hij hil hjl hx hy hz ha hw hs) fun D σ H ⟨T, Fp, F0, H0, F, ρ, τ, s, q⟩ => by
  have key : tX (kc X) X.mg W fs σ H fun v H1 => ∃ F1 τ1 ss, Ext T F H F1 H1 τ1 ∧ Sta (kc X) T Fp F0 H0 F1 H1 σ ρ τ1 ∧ News (kc X) T H F1 H1 v ss ∧ (∀ s ∈ ss, s ≠ .un) ∧ wpO (kc X) X.mg W T Fp F0 H0 D (if [i, j, l].length = ss.length then .nx (setS ρ [i, j, l] ss) τ1 else .no) := by
    refine ⟨T, F, ρ, τ, s.sr, ?_⟩
    have q : wpO (kc X) X.mg W T Fp F0 H0 D (bO (fs ρ) ρ (fun ss τ1 => if [i, j, l].length = ss.length then .nx (setS ρ [i, j, l] ss) τ1 else .no) τ) := q
    unfold bO at q
    have hun' := hun ρ τ
    cases e : fs ρ τ with
    | ok d τ1 =>
      rw [e] at q
      exact fun v F1 H1 x r => ⟨F1, τ1, d, x, s.ext x, r, hun' d τ1 e, q⟩
    | exc c τ1 =>
      rw [e] at q
      exact fun F' H' cl x hm => q F' H' σ cl (s.ext x) hm
    | no => rw [e] at q; exact q
  refine tX_mono key fun vs H1 ⟨F1, τ1, ss, x1, s1, n1, nu, q1⟩ => ?_
  split at q1
  · rename_i hl
    have hl : 3 = ss.length := hl
    have hvl : vs.length = 3 := n1.len.trans hl.symm
    match vs, hvl, n1 with
    | [v, w, u], _, n1 =>
      refine ⟨v, w, u, rfl, q1 F1 H1 _ (Sta.news x1 [i, j, l] s1 (fun a o h ht => ⟨o, s.ex.keep a o h ht⟩) (old_new s n1) n1 nu)⟩
  · exact q1.elim
end
end DL
end

section
set_option Elab.async false
set_option linter.all false
set_option maxHeartbeats 2000000
/-! MA: machines, plainly: what their states do, states told apart by rounds -/
namespace MA
abbrev Rows := List (List Nat)
def stp (rows : Rows) (q a : Nat) : Nat := (rows.getD q []).getD a 0
def run (rows : Rows) (q : Nat) (w : List Nat) : Nat := w.foldl (stp rows) q
def acc (rows : Rows) (ends : List Nat) (q : Nat) (w : List Nat) : Bool := decide (run rows q w ∈ ends)
structure Ok (wd : Nat) (rows : Rows) : Prop where
  pos : 0 < rows.length
  row : ∀ r ∈ rows, r.length = wd ∧ ∀ x ∈ r, x < rows.length
def Wd (wd : Nat) (w : List Nat) : Prop := ∀ a ∈ w, a < wd
/-- the two states do the same on texts of at most k letters -/
def Eqk (wd : Nat) (rows : Rows) (ends : List Nat) (k p q : Nat) : Prop := ∀ w, Wd wd w → w.length ≤ k → acc rows ends p w = acc rows ends q w
def Eqv (wd : Nat) (rows : Rows) (ends : List Nat) (p q : Nat) : Prop := ∀ w, Wd wd w → acc rows ends p w = acc rows ends q w
section
variable {wd : Nat} {rows : Rows} {ends : List Nat}
theorem getD_mem {α : Type} {xs : List α} {i : Nat} {d : α} (h : i < xs.length) : xs.getD i d ∈ xs := by
  rw [List.getD_eq_getElem?_getD, List.getElem?_eq_getElem h]
  exact List.getElem_mem h
theorem Ok.stp_lt (o : Ok wd rows) {q a : Nat} (hq : q < rows.length) (ha : a < wd) : stp rows q a < rows.length := by
  have h1 := getD_mem (d := ([] : List Nat)) hq
  obtain ⟨h2, h3⟩ := o.row _ h1
  exact h3 _ (getD_mem (by rw [h2]; exact ha))
theorem Ok.run_lt (o : Ok wd rows) : ∀ {w : List Nat} {q : Nat}, q < rows.length → Wd wd w → run rows q w < rows.length
  | [], _, hq, _ => hq
  | a :: w, _, hq, hw => Ok.run_lt o (w := w) (o.stp_lt hq (hw a List.mem_cons_self)) fun b hb => hw b (List.mem_cons_of_mem _ hb)
theorem acc_cons (q a : Nat) (w : List Nat) : acc rows ends q (a :: w) = acc rows ends (stp rows q a) w := rfl
theorem run_append (q : Nat) (u w : List Nat) : run rows q (u ++ w) = run rows (run rows q u) w := List.foldl_append
theorem Wd.cons {a : Nat} {w : List Nat} (ha : a < wd) (h : Wd wd w) : Wd wd (a :: w) := fun b hb => by
  rcases List.mem_cons.mp hb with rfl | hb
  · exact ha
  · exact h b hb
theorem Eqk.step {k p q : Nat} : Eqk wd rows ends (k + 1) p q ↔ Eqk wd rows ends k p q ∧ ∀ a, a < wd → Eqk wd rows ends k (stp rows p a) (stp rows q a) := by
  constructor
  · intro h
    exact ⟨fun w hw hl => h w hw (by omega), fun a ha w hw hl => h (a :: w) (hw.cons ha) (by rw [List.length_cons]; omega)⟩
  · rintro ⟨h1, h2⟩ w hw hl
    cases w with
    | nil => exact h1 [] hw (Nat.zero_le _)
    | cons a w => exact h2 a (hw a List.mem_cons_self) w (fun b hb => hw b (List.mem_cons_of_mem _ hb)) (by rw [List.length_cons] at hl; omega)
theorem Eqk.zero {p q : Nat} : Eqk wd rows ends 0 p q ↔ (decide (p ∈ ends) = decide (q ∈ ends)) := by
  constructor
  · intro h
    exact h [] (fun _ h => by cases h) (Nat.le_refl _)
  · intro h w _ hl
    have : w = [] := List.length_eq_zero_iff.mp (by omega)
    subst this
    exact h
theorem Eqv.eqk {p q : Nat} (h : Eqv wd rows ends p q) (k : Nat) : Eqk wd rows ends k p q := fun w hw _ => h w hw
theorem eqv_iff {p q : Nat} : Eqv wd rows ends p q ↔ ∀ k, Eqk wd rows ends k p q := ⟨fun h k => h.eqk k, fun h w hw => h w.length w hw (Nat.le_refl _)⟩
theorem Eqk.mono {j k p q : Nat} (h : Eqk wd rows ends k p q) (hj : j ≤ k) : Eqk wd rows ends j p q := fun w hw hl => h w hw (by omega)
/-- nothing is told apart by one letter more -/
def Still (wd : Nat) (rows : Rows) (ends : List Nat) (k : Nat) : Prop := ∀ p q, p < rows.length → q < rows.length → Eqk wd rows ends k p q → Eqk wd rows ends (k + 1) p q
theorem Still.all (o : Ok wd rows) {k : Nat} (h : Still wd rows ends k) : ∀ (j : Nat) {p q : Nat}, p < rows.length → q < rows.length → Eqk wd rows ends k p q → Eqk wd rows ends (k + j) p q
  | 0, _, _, _, _, e => e
  | j + 1, p, q, hp, hq, e => by
    have e1 := h p q hp hq e
    rw [Eqk.step] at e1
    rw [show k + (j + 1) = (k + j) + 1 from rfl, Eqk.step]
    exact ⟨Still.all o h j hp hq e, fun a ha => Still.all o h j (o.stp_lt hp ha) (o.stp_lt hq ha) (e1.2 a ha)⟩
theorem Still.eqv (o : Ok wd rows) {k : Nat} (h : Still wd rows ends k) {p q : Nat} (hp : p < rows.length) (hq : q < rows.length) : Eqk wd rows ends k p q ↔ Eqv wd rows ends p q := by
  constructor
  · intro e
    rw [eqv_iff]
    intro j
    exact (h.all o j hp hq e).mono (by omega)
  · exact fun e => e.eqk k
/-! ### counting what differs -/
def once : List Nat → List Nat
  | [] => []
  | x :: xs => if x ∈ once xs then once xs else x :: once xs
theorem mem_once {x : Nat} : ∀ {xs : List Nat}, x ∈ once xs ↔ x ∈ xs
  | [] => Iff.rfl
  | y :: ys => by
    unfold once
    split
    · rename_i h
      rw [mem_once, List.mem_cons]
      constructor
      · exact .inr
      · rintro (rfl | z)
        · exact mem_once.mp h
        · exact z
    · rw [List.mem_cons, List.mem_cons, mem_once]
theorem once_nodup : ∀ xs : List Nat, (once xs).Nodup
  | [] => List.nodup_nil
  | x :: xs => by
    unfold once
    split
    · exact once_nodup xs
    · rename_i h
      exact List.nodup_cons.mpr ⟨h, once_nodup xs⟩
def cnt (xs : List Nat) : Nat := (once xs).length
/-- a list that covers as many things as it is long repeats none -/
theorem nodup_of_cover : ∀ {a c : List Nat}, a.Nodup → (∀ x ∈ a, x ∈ c) → c.length ≤ a.length → c.Nodup
  | [], c, _, _, h => by rw [List.length_eq_zero_iff.mp (show c.length = 0 by simpa using h)]; exact List.nodup_nil
  | x :: a, c, hn, hs, h => by
    obtain ⟨h1, h2⟩ := List.nodup_cons.mp hn
    have hx : x ∈ c := hs x List.mem_cons_self
    have pm := List.perm_cons_erase hx
    have le : (c.erase x).length = c.length - 1 := List.length_erase_of_mem hx
    have sub : ∀ y ∈ a, y ∈ c.erase x := fun y hy => by
      have : y ≠ x := fun e => h1 (e ▸ hy)
      exact (List.mem_erase_of_ne this).mpr (hs y (List.mem_cons_of_mem _ hy))
    rw [List.length_cons] at h
    have ih := nodup_of_cover h2 sub (by omega)
    refine pm.nodup_iff.mpr (List.nodup_cons.mpr ⟨fun hx2 => ?_, ih⟩)
    have : (x :: a).length ≤ (c.erase x).length := List.Nodup.length_le_of_subset hn fun y hy => by
      rcases List.mem_cons.mp hy with rfl | hy
      · exact hx2
      · exact sub y hy
    rw [List.length_cons] at this
    have := List.length_pos_of_mem hx
    omega
/-- c2 tells apart what c1 tells apart -/
theorem cnt_mono {n : Nat} {c1 c2 : List Nat} (h1 : c1.length = n) (h2 : c2.length = n) (f : ∀ p q, p < n → q < n → c2.getD p 0 = c2.getD q 0 → c1.getD p 0 = c1.getD q 0) :
    cnt c1 ≤ cnt c2 ∧ (cnt c2 ≤ cnt c1 → ∀ p q, p < n → q < n → c1.getD p 0 = c1.getD q 0 → c2.getD p 0 = c2.getD q 0) := by
  -- from a value of c2 to the value of c1 in its place
  let g : Nat → Nat := fun v => c1.getD (c2.findIdx fun x => x == v) 0
  have gv : ∀ p, p < n → g (c2.getD p 0) = c1.getD p 0 := fun p hp => by
    have hm : c2.getD p 0 ∈ c2 := getD_mem (by omega)
    have hi : (c2.findIdx fun x => x == c2.getD p 0) < c2.length := List.findIdx_lt_length_of_exists ⟨_, hm, by simp⟩
    refine f _ _ (by omega) hp ?_
    have := List.findIdx_getElem (w := hi)
    rw [List.getD_eq_getElem?_getD, List.getElem?_eq_getElem hi]
    simpa using this
  have cov : ∀ x ∈ once c1, x ∈ (once c2).map g := fun x hx => by
    obtain ⟨p, hp, e⟩ := List.mem_iff_getElem.mp (mem_once.mp hx)
    refine List.mem_map.mpr ⟨c2.getD p 0, mem_once.mpr (getD_mem (by omega)), ?_⟩
    rw [gv p (by omega), List.getD_eq_getElem?_getD, List.getElem?_eq_getElem hp]
    exact e
  have le : cnt c1 ≤ cnt c2 := by
    have := List.Nodup.length_le_of_subset (once_nodup c1) cov
    rw [List.length_map] at this
    exact this
  refine ⟨le, fun ge p q hp hq e => ?_⟩
  have nd := nodup_of_cover (once_nodup c1) cov (by rw [List.length_map]; exact ge)
  have e2 : g (c2.getD p 0) = g (c2.getD q 0) := by rw [gv p hp, gv q hq, e]
  have inj : ∀ {l : List Nat}, (l.map g).Nodup → ∀ x ∈ l, ∀ y ∈ l, g x = g y → x = y := by
    intro l
    induction l with
    | nil => intro _ x hx; cases hx
    | cons z l ih =>
      intro hn x hx y hy exy
      rw [List.map_cons, List.nodup_cons] at hn
      rcases List.mem_cons.mp hx with ex | hx1
      · rcases List.mem_cons.mp hy with ey | hy1
        · rw [ex, ey]
        · exact absurd (List.mem_map.mpr ⟨y, hy1, by rw [← exy, ex]⟩) hn.1
      · rcases List.mem_cons.mp hy with ey | hy1
        · exact absurd (List.mem_map.mpr ⟨x, hx1, by rw [exy, ey]⟩) hn.1
        · exact ih hn.2 x hx1 y hy1 exy
  exact inj nd _ (mem_once.mpr (getD_mem (by omega))) _ (mem_once.mpr (getD_mem (by omega))) e2
theorem cnt_le (xs : List Nat) : cnt xs ≤ xs.length := by
  unfold cnt
  exact List.Nodup.length_le_of_subset (once_nodup xs) fun x hx => mem_once.mp hx
theorem cnt_pos {xs : List Nat} (h : 0 < xs.length) : 0 < cnt xs := by
  unfold cnt
  cases xs with
  | nil => cases h
  | cons x xs => exact List.length_pos_of_mem (mem_once.mpr (List.mem_cons_self (a := x) (l := xs)))
/-! ### rounds -/
/-- the numbers tell apart what texts of at most k letters tell apart -/
structure Rd (wd : Nat) (rows : Rows) (ends : List Nat) (k : Nat) (c : List Nat) : Prop where
  len : c.length = rows.length
  iff : ∀ p q, p < rows.length → q < rows.length → (c.getD p 0 = c.getD q 0 ↔ Eqk wd rows ends k p q)
theorem Rd.next (o : Ok wd rows) {k : Nat} {c c' : List Nat} (r : Rd wd rows ends k c) (hl : c'.length = rows.length)
    (h : ∀ p q, p < rows.length → q < rows.length → (c'.getD p 0 = c'.getD q 0 ↔ c.getD p 0 = c.getD q 0 ∧ ∀ a, a < wd → c.getD (stp rows p a) 0 = c.getD (stp rows q a) 0)) : Rd wd rows ends (k + 1) c' := by
  refine ⟨hl, fun p q hp hq => ?_⟩
  rw [h p q hp hq, Eqk.step, r.iff p q hp hq]
  constructor
  · rintro ⟨h1, h2⟩
    exact ⟨h1, fun a ha => (r.iff _ _ (o.stp_lt hp ha) (o.stp_lt hq ha)).mp (h2 a ha)⟩
  · rintro ⟨h1, h2⟩
    exact ⟨h1, fun a ha => (r.iff _ _ (o.stp_lt hp ha) (o.stp_lt hq ha)).mpr (h2 a ha)⟩
/-- as many numbers after a round as before: nothing more is told apart -/
theorem Rd.still {k : Nat} {c c' : List Nat} (r : Rd wd rows ends k c) (r' : Rd wd rows ends (k + 1) c') (h : cnt c' ≤ cnt c) : Still wd rows ends k := fun p q hp hq e => by
  have m := cnt_mono r.len r'.len fun p q hp hq z => (r.iff p q hp hq).mpr (((r'.iff p q hp hq).mp z).mono (Nat.le_succ k))
  exact (r'.iff p q hp hq).mp (m.2 h p q hp hq ((r.iff p q hp hq).mpr e))
theorem Rd.grows {k : Nat} {c c' : List Nat} (r : Rd wd rows ends k c) (r' : Rd wd rows ends (k + 1) c') : cnt c ≤ cnt c' :=
  (cnt_mono r.len r'.len fun p q hp hq z => (r.iff p q hp hq).mpr (((r'.iff p q hp hq).mp z).mono (Nat.le_succ k))).1
/-- there are numbers for every round -/
theorem rd_many (o : Ok wd rows) (cs : Nat → List Nat) (h : ∀ k, Rd wd rows ends k (cs k)) : ∀ k, (∃ j, j < k ∧ Still wd rows ends j) ∨ k + 1 ≤ cnt (cs k)
  | 0 => .inr (by
    have := cnt_pos (xs := cs 0) (by rw [(h 0).len]; exact o.pos)
    omega)
  | k + 1 => by
    rcases rd_many o cs h k with ⟨j, h1, h2⟩ | h1
    · exact .inl ⟨j, by omega, h2⟩
    · by_cases hc : cnt (cs (k + 1)) ≤ cnt (cs k)
      · exact .inl ⟨k, by omega, (h k).still (h (k + 1)) hc⟩
      · exact .inr (by omega)
/-- after as many rounds as there are states all is told apart -/
theorem rd_all (o : Ok wd rows) (cs : Nat → List Nat) (h : ∀ k, Rd wd rows ends k (cs k)) {p q : Nat} (hp : p < rows.length) (hq : q < rows.length) : (cs rows.length).getD p 0 = (cs rows.length).getD q 0 ↔ Eqv wd rows ends p q := by
  rw [(h rows.length).iff p q hp hq]
  rcases rd_many o cs h rows.length with ⟨j, h1, h2⟩ | h1
  · constructor
    · intro e
      exact (h2.eqv o hp hq).mp (e.mono (by omega))
    · exact fun e => e.eqk _
  · have := cnt_le (cs rows.length)
    rw [(h rows.length).len] at this
    omega
end
end MA
end

section
set_option Elab.async false
set_option linter.all false
set_option maxHeartbeats 2000000
/-! MB: machines, plainly: states numbered as they are first come to -/
namespace MA
def add (key : Nat → Nat) (line : List Nat) (g : Nat) : List Nat := if (line.any fun x => key x == key g) = true then line else line ++ [g]
def grow (key : Nat → Nat) (line gs : List Nat) : List Nat := gs.foldl (add key) line
def bfs (key : Nat → Nat) (next : Nat → List Nat) : Nat → Nat → List Nat → List Nat
  | 0, _, line => line
  | f + 1, t, line => if t < line.length then bfs key next f (t + 1) (grow key line (next (line.getD t 0))) else line
def idx (key : Nat → Nat) (line : List Nat) (g : Nat) : Nat := line.findIdx fun x => key x == key g
def canR (key : Nat → Nat) (next : Nat → List Nat) (line : List Nat) : Rows := line.map fun s => (next s).map (idx key line)
def canE (ends : Nat → Bool) (line : List Nat) : List Nat := (List.range line.length).filter fun i => ends (line.getD i 0)
section
variable {key : Nat → Nat} {next : Nat → List Nat}
theorem add_pre (line : List Nat) (g : Nat) : line <+: add key line g := by
  unfold add
  split
  · exact List.prefix_refl _
  · exact List.prefix_append _ _
theorem grow_pre : ∀ (gs line : List Nat), line <+: grow key line gs
  | [], line => List.prefix_refl _
  | g :: gs, line => (add_pre line g).trans (grow_pre gs (add key line g))
theorem bfs_pre : ∀ (f t : Nat) (line : List Nat), line <+: bfs key next f t line
  | 0, _, line => List.prefix_refl _
  | f + 1, t, line => by
    unfold bfs
    split
    · exact (grow_pre _ _).trans (bfs_pre f _ _)
    · exact List.prefix_refl _
theorem pre_getD {l m : List Nat} (h : l <+: m) {i : Nat} (hi : i < l.length) : m.getD i 0 = l.getD i 0 := by
  obtain ⟨s, rfl⟩ := h
  rw [List.getD_eq_getElem?_getD, List.getD_eq_getElem?_getD, List.getElem?_append_left hi]
theorem add_mem (line : List Nat) (g : Nat) : ∃ x ∈ add key line g, key x = key g := by
  unfold add
  split
  · rename_i h
    obtain ⟨x, hx, e⟩ := List.any_eq_true.mp h
    exact ⟨x, hx, by simpa using e⟩
  · exact ⟨g, by simp, rfl⟩
theorem grow_mem : ∀ (gs line : List Nat) (g : Nat), g ∈ gs → ∃ x ∈ grow key line gs, key x = key g
  | g :: gs, line, x, hx => by
    rcases List.mem_cons.mp hx with rfl | hx
    · obtain ⟨y, hy, e⟩ := add_mem (key := key) line x
      exact ⟨y, (grow_pre gs _).subset hy, e⟩
    · exact grow_mem gs (add key line g) x hx
theorem add_of {line : List Nat} {g x : Nat} (h : x ∈ add key line g) : x ∈ line ∨ x = g := by
  unfold add at h
  split at h
  · exact .inl h
  · simpa using h
theorem grow_of : ∀ {gs line : List Nat} {x : Nat}, x ∈ grow key line gs → x ∈ line ∨ x ∈ gs
  | [], _, _, h => .inl h
  | g :: gs, line, x, h => by
    rcases grow_of (gs := gs) (line := add key line g) h with z | z
    · rcases add_of z with z | z
      · exact .inl z
      · exact .inr (by rw [z]; exact List.mem_cons_self)
    · exact .inr (List.mem_cons_of_mem _ z)
theorem bfs_all {P : Nat → Prop} (hn : ∀ s, P s → ∀ g ∈ next s, P g) : ∀ (f t : Nat) (line : List Nat), (∀ x ∈ line, P x) → ∀ x ∈ bfs key next f t line, P x
  | 0, _, _, h => h
  | f + 1, t, line, h => by
    unfold bfs
    split
    · rename_i ht
      refine bfs_all hn f _ _ fun x hx => ?_
      rcases grow_of hx with z | z
      · exact h x z
      · exact hn _ (h _ (getD_mem ht)) x z
    · exact h
/-- no two of the same key -/
def KNd (key : Nat → Nat) (line : List Nat) : Prop := line.Pairwise fun x y => key x ≠ key y
theorem add_nd {line : List Nat} {g : Nat} (h : KNd key line) : KNd key (add key line g) := by
  unfold add
  split
  · exact h
  · rename_i hn
    refine List.pairwise_append.mpr ⟨h, List.pairwise_singleton _ _, fun a ha b hb => ?_⟩
    rw [List.mem_singleton] at hb
    subst hb
    intro e
    exact hn (List.any_eq_true.mpr ⟨a, ha, by simpa using e⟩)
theorem grow_nd : ∀ {gs line : List Nat}, KNd key line → KNd key (grow key line gs)
  | [], _, h => h
  | g :: gs, line, h => grow_nd (gs := gs) (line := add key line g) (add_nd h)
theorem bfs_nd : ∀ (f t : Nat) (line : List Nat), KNd key line → KNd key (bfs key next f t line)
  | 0, _, _, h => h
  | f + 1, t, line, h => by
    unfold bfs
    split
    · exact bfs_nd f _ _ (grow_nd h)
    · exact h
/-- more turns than there is to do change nothing -/
theorem bfs_more : ∀ (f j t : Nat) (line : List Nat), (bfs key next f t line).length ≤ t + f → bfs key next (f + j) t line = bfs key next f t line
  | 0, j, t, line, h => by
    have h : line.length ≤ t + 0 := h
    cases j with
    | zero => rfl
    | succ j =>
      show bfs key next (0 + j + 1) t line = line
      unfold bfs
      rw [if_neg (by omega)]
  | f + 1, j, t, line, h => by
    rw [show f + 1 + j = (f + j) + 1 from by omega]
    unfold bfs at h ⊢
    split
    · rename_i ht
      rw [if_pos ht] at h
      exact bfs_more f j (t + 1) _ (by omega)
    · rfl
/-- what the first t states lead to is there -/
def Done (key : Nat → Nat) (next : Nat → List Nat) (t : Nat) (line : List Nat) : Prop := ∀ i, i < t → i < line.length → ∀ g ∈ next (line.getD i 0), ∃ x ∈ line, key x = key g
theorem bfs_done : ∀ (f t : Nat) (line : List Nat), Done key next t line → t ≤ line.length → (bfs key next f t line).length ≤ t + f → ∀ s ∈ bfs key next f t line, ∀ g ∈ next s, ∃ x ∈ bfs key next f t line, key x = key g
  | 0, t, line, h, hl, hf => fun s hs g hg => by
    obtain ⟨i, hi, e⟩ := List.mem_iff_getElem.mp hs
    have hf : line.length ≤ t + 0 := hf
    have hi : i < line.length := hi
    refine h i (by omega) hi g ?_
    rw [List.getD_eq_getElem?_getD, List.getElem?_eq_getElem hi]
    have e : line[i] = s := e
    rw [e]
    exact hg
  | f + 1, t, line, h, hl, hf => by
    unfold bfs at hf ⊢
    split
    · rename_i ht
      rw [if_pos ht] at hf
      have pre := grow_pre (key := key) (next (line.getD t 0)) line
      refine bfs_done f (t + 1) _ (fun i hi hil g hg => ?_) (by have := pre.length_le; omega) (by omega)
      by_cases e : i = t
      · subst e
        rw [pre_getD pre ht] at hg
        exact grow_mem _ _ g hg
      · rw [pre_getD pre (by omega)] at hg
        obtain ⟨x, hx, ex⟩ := h i (by omega) (by omega) g hg
        exact ⟨x, pre.subset hx, ex⟩
    · rename_i ht
      intro s hs g hg
      obtain ⟨i, hi, e⟩ := List.mem_iff_getElem.mp hs
      refine h i (by omega) hi g ?_
      rw [List.getD_eq_getElem?_getD, List.getElem?_eq_getElem hi, e]
      exact hg
theorem knd_nodup {line : List Nat} (h : KNd key line) : line.Nodup := h.imp fun h e => h (by rw [e])
theorem nodup_le {line : List Nat} {n : Nat} (h : line.Nodup) (hl : ∀ x ∈ line, x < n) : line.length ≤ n := by
  have := List.Nodup.length_le_of_subset h (l₂ := List.range n) fun x hx => List.mem_range.mpr (hl x hx)
  rwa [List.length_range] at this
end
/-! ### two systems that go together -/
inductive Al (R : Nat → Nat → Prop) : List Nat → List Nat → Prop
  | nil : Al R [] []
  | cons {a b : Nat} {as bs : List Nat} : R a b → Al R as bs → Al R (a :: as) (b :: bs)
section
variable {R : Nat → Nat → Prop} {k1 k2 : Nat → Nat} {n1 n2 : Nat → List Nat}
theorem Al.length : ∀ {l m : List Nat}, Al R l m → l.length = m.length
  | _, _, .nil => rfl
  | _, _, .cons _ t => by rw [List.length_cons, List.length_cons, Al.length t]
theorem Al.append : ∀ {l m l' m' : List Nat}, Al R l m → Al R l' m' → Al R (l ++ l') (m ++ m')
  | _, _, _, _, .nil, h => h
  | _, _, _, _, .cons r t, h => .cons r (Al.append t h)
theorem Al.getD : ∀ {l m : List Nat} {i : Nat}, Al R l m → i < l.length → R (l.getD i 0) (m.getD i 0)
  | _, _, 0, .cons r _, _ => r
  | _, _, i + 1, .cons _ t, h => by
    have := Al.getD (i := i) t (by rw [List.length_cons] at h; omega)
    simpa using this
  | _, _, _, .nil, h => by cases h
theorem Al.map {f g : Nat → List Nat} (h : ∀ a b, R a b → f a = g b) : ∀ {l m : List Nat}, Al R l m → l.map f = m.map g
  | _, _, .nil => rfl
  | _, _, .cons r t => by rw [List.map_cons, List.map_cons, h _ _ r, Al.map h t]
theorem Al.mapN {f g : Nat → Nat} (h : ∀ a b, R a b → f a = g b) : ∀ {l m : List Nat}, Al R l m → l.map f = m.map g
  | _, _, .nil => rfl
  | _, _, .cons r t => by rw [List.map_cons, List.map_cons, h _ _ r, Al.mapN h t]
variable (hk : ∀ a b a' b', R a b → R a' b' → (k1 a = k1 a' ↔ k2 b = k2 b'))
include hk
theorem Al.any {g g' : Nat} (hg : R g g') : ∀ {l m : List Nat}, Al R l m → (l.any fun x => k1 x == k1 g) = (m.any fun x => k2 x == k2 g')
  | _, _, .nil => rfl
  | _, _, .cons (a := a) (b := b) r t => by
    rw [List.any_cons, List.any_cons, Al.any hg t]
    have e : (k1 a == k1 g) = (k2 b == k2 g') := by
      rw [Bool.eq_iff_iff, beq_iff_eq, beq_iff_eq]
      exact hk _ _ _ _ r hg
    rw [e]
theorem Al.idx {g g' : Nat} (hg : R g g') : ∀ {l m : List Nat}, Al R l m → MA.idx k1 l g = MA.idx k2 m g'
  | _, _, .nil => rfl
  | _, _, .cons (a := a) (b := b) r t => by
    have ih := Al.idx hg t
    unfold MA.idx at ih ⊢
    have e : (k1 a == k1 g) = (k2 b == k2 g') := by
      rw [Bool.eq_iff_iff, beq_iff_eq, beq_iff_eq]
      exact hk _ _ _ _ r hg
    rw [List.findIdx_cons, List.findIdx_cons, ih, e]
theorem add_al {l m : List Nat} {g g' : Nat} (h : Al R l m) (hg : R g g') : Al R (add k1 l g) (add k2 m g') := by
  unfold add
  rw [Al.any hk hg h]
  split
  · exact h
  · exact h.append (.cons hg .nil)
theorem grow_al : ∀ {gs gs' l m : List Nat}, Al R gs gs' → Al R l m → Al R (grow k1 l gs) (grow k2 m gs')
  | _, _, _, _, .nil, h => h
  | _, _, _, _, .cons r t, h => by
    have := grow_al t (add_al hk h r)
    exact this
variable (hn : ∀ a b, R a b → Al R (n1 a) (n2 b))
include hn
theorem bfs_al : ∀ (f t : Nat) {l m : List Nat}, Al R l m → Al R (bfs k1 n1 f t l) (bfs k2 n2 f t m)
  | 0, _, _, _, h => h
  | f + 1, t, l, m, h => by
    unfold bfs
    rw [← h.length]
    split
    · rename_i ht
      exact bfs_al f _ (grow_al hk (hn _ _ (h.getD ht)) h)
    · exact h
theorem can_al {l m : List Nat} (h : Al R l m) : canR k1 n1 l = canR k2 n2 m := by
  unfold canR
  exact Al.map (R := R) (f := fun s => (n1 s).map (MA.idx k1 l)) (g := fun s => (n2 s).map (MA.idx k2 m)) (fun a b r => Al.mapN (R := R) (fun g g' hg => Al.idx hk hg h) (hn a b r)) h
omit hk hn in
theorem canE_al {e1 e2 : Nat → Bool} (he : ∀ a b, R a b → e1 a = e2 b) {l m : List Nat} (h : Al R l m) : canE e1 l = canE e2 m := by
  unfold canE
  rw [← h.length]
  refine List.filter_congr fun i hi => ?_
  exact he _ _ (h.getD (List.mem_range.mp hi))
end
end MA
end

section
set_option Elab.async false
set_option linter.all false
set_option maxHeartbeats 2000000
/-! MC: machines, plainly: the least machine, made in two ways -/
namespace MA
abbrev nx (rows : Rows) (s : Nat) : List Nat := rows.getD s []
theorem getD_map {α β : Type} {f : α → β} {xs : List α} {i : Nat} {d : β} {e : α} (h : i < xs.length) : (xs.map f).getD i d = f (xs.getD i e) := by
  rw [List.getD_eq_getElem?_getD, List.getD_eq_getElem?_getD, List.getElem?_map, List.getElem?_eq_getElem h]
  rfl
theorem al_of {R : Nat → Nat → Prop} : ∀ {l m : List Nat}, l.length = m.length → (∀ i, i < l.length → R (l.getD i 0) (m.getD i 0)) → Al R l m
  | [], [], _, _ => .nil
  | [], _ :: _, h, _ => by simp at h
  | _ :: _, [], h, _ => by simp at h
  | a :: l, b :: m, h, k => .cons (k 0 (by simp)) (al_of (by simpa using h) fun i hi => by
    have := k (i + 1) (by rw [List.length_cons]; omega)
    simpa using this)
section
variable {wd : Nat} {rows : Rows} {ends : List Nat}
theorem Ok.nx_len (o : Ok wd rows) {s : Nat} (hs : s < rows.length) : (nx rows s).length = wd := (o.row _ (getD_mem hs)).1
theorem Ok.nx_lt (o : Ok wd rows) {s : Nat} (hs : s < rows.length) : ∀ g ∈ nx rows s, g < rows.length := (o.row _ (getD_mem hs)).2
theorem stp_mem (o : Ok wd rows) {s a : Nat} (hs : s < rows.length) (ha : a < wd) : stp rows s a ∈ nx rows s := getD_mem (by rw [o.nx_len hs]; exact ha)
/-- a row of states numbered -/
structure Line (rows : Rows) (key : Nat → Nat) (line : List Nat) : Prop where
  pos : 0 < line.length
  lt : ∀ x ∈ line, x < rows.length
  nd : KNd key line
  shut : ∀ s ∈ line, ∀ g ∈ nx rows s, ∃ x ∈ line, key x = key g
theorem idx_lt {key : Nat → Nat} {line : List Nat} {g : Nat} (h : ∃ x ∈ line, key x = key g) : idx key line g < line.length := by
  obtain ⟨x, hx, e⟩ := h
  exact List.findIdx_lt_length_of_exists ⟨x, hx, by simpa using e⟩
theorem idx_key {key : Nat → Nat} {line : List Nat} {g : Nat} (h : ∃ x ∈ line, key x = key g) : key (line.getD (idx key line g) 0) = key g := by
  have hi := idx_lt h
  have : (fun x => key x == key g) line[idx key line g] = true := List.findIdx_getElem (w := hi)
  rw [List.getD_eq_getElem?_getD, List.getElem?_eq_getElem hi]
  simpa using this
/-- the first line: from the state s, with turns enough -/
theorem line_of (o : Ok wd rows) {key : Nat → Nat} {s f : Nat} (hs : s < rows.length) (hf : rows.length ≤ f) : Line rows key (bfs key (nx rows) f 0 [s]) ∧ bfs key (nx rows) f 0 [s] = bfs key (nx rows) rows.length 0 [s] ∧ (bfs key (nx rows) f 0 [s]).getD 0 0 = s := by
  have all : ∀ f, ∀ x ∈ bfs key (nx rows) f 0 [s], x < rows.length := fun f => bfs_all (P := fun x => x < rows.length) (fun t ht g hg => o.nx_lt ht g hg) f 0 [s] fun x hx => by
    rw [List.mem_singleton.mp hx]; exact hs
  have nd : ∀ f, KNd key (bfs key (nx rows) f 0 [s]) := fun f => bfs_nd f 0 [s] (List.pairwise_singleton _ _)
  have len : ∀ f, (bfs key (nx rows) f 0 [s]).length ≤ rows.length := fun f => nodup_le (knd_nodup (nd f)) (all f)
  have pre : ∀ f, [s] <+: bfs key (nx rows) f 0 [s] := fun f => bfs_pre f 0 [s]
  refine ⟨⟨?_, all f, nd f, ?_⟩, ?_, ?_⟩
  · have : 1 ≤ _ := (pre f).length_le
    exact this
  · exact bfs_done f 0 [s] (fun i hi => by omega) (Nat.zero_le _) (by have := len f; omega)
  · have := bfs_more (key := key) (next := nx rows) rows.length (f - rows.length) 0 [s] (by have := len rows.length; omega)
    rw [← this]
    congr 1
    omega
  · have := pre_getD (pre f) (i := 0) (by simp)
    rw [this]
    rfl
variable {key : Nat → Nat} {line : List Nat}
theorem can_stp (o : Ok wd rows) (L : Line rows key line) {i a : Nat} (hi : i < line.length) (ha : a < wd) : stp (canR key (nx rows) line) i a = idx key line (stp rows (line.getD i 0) a) := by
  unfold stp canR
  rw [getD_map (e := 0) hi, getD_map (e := 0) (by rw [o.nx_len (L.lt _ (getD_mem hi))]; exact ha)]
theorem can_len : (canR key (nx rows) line).length = line.length := by
  unfold canR
  rw [List.length_map]
theorem can_ok (o : Ok wd rows) (L : Line rows key line) : Ok wd (canR key (nx rows) line) := by
  refine ⟨by rw [can_len]; exact L.pos, fun r hr => ?_⟩
  unfold canR at hr
  obtain ⟨s, hs, rfl⟩ := List.mem_map.mp hr
  refine ⟨by rw [List.length_map, o.nx_len (L.lt s hs)], fun x hx => ?_⟩
  obtain ⟨g, hg, rfl⟩ := List.mem_map.mp hx
  rw [can_len]
  exact idx_lt (L.shut s hs g hg)
theorem mem_canE {e : Nat → Bool} {i : Nat} : i ∈ canE e line ↔ i < line.length ∧ e (line.getD i 0) = true := by
  unfold canE
  rw [List.mem_filter, List.mem_range]
/-- what the numbered machine does -/
theorem can_acc (o : Ok wd rows) (L : Line rows key line) (hk : ∀ p q, p < rows.length → q < rows.length → key p = key q → Eqv wd rows ends p q) : ∀ (w : List Nat) (i : Nat), Wd wd w → i < line.length →
    acc (canR key (nx rows) line) (canE (fun s => decide (s ∈ ends)) line) i w = acc rows ends (line.getD i 0) w
  | [], i, _, hi => by
    show decide (i ∈ canE _ line) = decide (line.getD i 0 ∈ ends)
    rw [decide_eq_decide, mem_canE]
    simp [hi]
  | a :: w, i, hw, hi => by
    have ha := hw a List.mem_cons_self
    have hs := L.lt _ (getD_mem (d := 0) hi)
    have hx := L.shut _ (getD_mem (d := 0) hi) _ (stp_mem o hs ha)
    rw [acc_cons, acc_cons, can_stp o L hi ha, can_acc o L hk w _ (fun b hb => hw b (List.mem_cons_of_mem _ hb)) (idx_lt hx)]
    exact hk _ _ (L.lt _ (getD_mem (idx_lt hx))) (o.stp_lt hs ha) (idx_key hx) w fun b hb => hw b (List.mem_cons_of_mem _ hb)
/-! ### parts, thinned -/
structure Parts (wd : Nat) (rows : Rows) (ends : List Nat) (c : List Nat) (m : Nat) : Prop where
  len : c.length = rows.length
  lt : ∀ x ∈ c, x < m
  hit : ∀ j, j < m → j ∈ c
  iff : ∀ p q, p < rows.length → q < rows.length → (c.getD p 0 = c.getD q 0 ↔ Eqv wd rows ends p q)
def head (c : List Nat) (j : Nat) : Nat := c.findIdx fun x => x == j
def thinR (rows : Rows) (c : List Nat) (m : Nat) : Rows := (List.range m).map fun j => (nx rows (head c j)).map fun g => c.getD g 0
def thinE (ends c : List Nat) (m : Nat) : List Nat := (List.range m).filter fun j => decide (head c j ∈ ends)
variable {c : List Nat} {m : Nat}
theorem head_lt (P : Parts wd rows ends c m) {j : Nat} (hj : j < m) : head c j < rows.length := by
  rw [← P.len]
  exact List.findIdx_lt_length_of_exists ⟨j, P.hit j hj, by simp⟩
theorem head_at (P : Parts wd rows ends c m) {j : Nat} (hj : j < m) : c.getD (head c j) 0 = j := by
  have hi : head c j < c.length := by rw [P.len]; exact head_lt P hj
  have : (fun x => x == j) c[head c j] = true := List.findIdx_getElem (w := hi)
  rw [List.getD_eq_getElem?_getD, List.getElem?_eq_getElem hi]
  simpa using this
theorem thin_len : (thinR rows c m).length = m := by
  unfold thinR
  rw [List.length_map, List.length_range]
theorem parts_pos (o : Ok wd rows) (P : Parts wd rows ends c m) : 0 < m := by
  have := P.lt (c.getD 0 0) (getD_mem (by rw [P.len]; exact o.pos))
  omega
theorem thin_row {j : Nat} (hj : j < m) : nx (thinR rows c m) j = (nx rows (head c j)).map fun g => c.getD g 0 := by
  unfold nx thinR
  rw [getD_map (e := 0) (by rw [List.length_range]; exact hj)]
  rw [List.getD_eq_getElem?_getD (l := List.range m), List.getElem?_range hj]
  rfl
theorem thin_stp (o : Ok wd rows) (P : Parts wd rows ends c m) {j a : Nat} (hj : j < m) (ha : a < wd) : stp (thinR rows c m) j a = c.getD (stp rows (head c j) a) 0 := by
  show (nx (thinR rows c m) j).getD a 0 = _
  rw [thin_row hj, getD_map (e := 0) (by rw [o.nx_len (head_lt P hj)]; exact ha)]
  rfl
theorem thin_ok (o : Ok wd rows) (P : Parts wd rows ends c m) : Ok wd (thinR rows c m) := by
  refine ⟨by rw [thin_len]; exact parts_pos o P, fun r hr => ?_⟩
  unfold thinR at hr
  obtain ⟨j, hj, rfl⟩ := List.mem_map.mp hr
  have hj := List.mem_range.mp hj
  refine ⟨by rw [List.length_map, o.nx_len (head_lt P hj)], fun x hx => ?_⟩
  obtain ⟨g, hg, rfl⟩ := List.mem_map.mp hx
  rw [thin_len]
  exact P.lt _ (getD_mem (by rw [P.len]; exact o.nx_lt (head_lt P hj) g hg))
theorem thin_acc (o : Ok wd rows) (P : Parts wd rows ends c m) : ∀ (w : List Nat) (j : Nat), Wd wd w → j < m → acc (thinR rows c m) (thinE ends c m) j w = acc rows ends (head c j) w
  | [], j, _, hj => by
    show decide (j ∈ thinE ends c m) = decide (head c j ∈ ends)
    unfold thinE
    rw [decide_eq_decide, List.mem_filter, List.mem_range]
    simp [hj]
  | a :: w, j, hw, hj => by
    have ha := hw a List.mem_cons_self
    have hs := o.stp_lt (head_lt P hj) ha
    have hc : c.getD (stp rows (head c j) a) 0 < m := P.lt _ (getD_mem (by rw [P.len]; exact hs))
    have hw2 : Wd wd w := fun b hb => hw b (List.mem_cons_of_mem _ hb)
    rw [acc_cons, acc_cons, thin_stp o P hj ha, thin_acc o P w _ hw2 hc]
    exact (P.iff _ _ (head_lt P hc) hs).mp (head_at P hc) w hw2
/-- the states that are come to, numbered; parts of these; numbered again: the same as numbering by what states do -/
theorem least_one (o : Ok wd rows) {k0 : Nat → Nat} {line l2 l3 : List Nat} {c : List Nat} {m f g : Nat} (hk : ∀ p q, p < rows.length → q < rows.length → (k0 p = k0 q ↔ Eqv wd rows ends p q))
    (hf : rows.length ≤ f) (e1 : line = bfs id (nx rows) f 0 [0]) (P : Parts wd (canR id (nx rows) line) (canE (fun s => decide (s ∈ ends)) line) c m) (hg : m ≤ g)
    (e2 : l2 = bfs id (nx (thinR (canR id (nx rows) line) c m)) g 0 [c.getD 0 0]) (e3 : l3 = bfs k0 (nx rows) rows.length 0 [0]) :
    canR id (nx (thinR (canR id (nx rows) line) c m)) l2 = canR k0 (nx rows) l3 ∧ canE (fun s => decide (s ∈ thinE (canE (fun s => decide (s ∈ ends)) line) c m)) l2 = canE (fun s => decide (s ∈ ends)) l3 := by
  obtain ⟨L, _, z0⟩ := line_of o (key := id) (s := 0) (f := f) o.pos hf
  rw [← e1] at L z0
  have o1 := can_ok o L
  have o2 := thin_ok o1 P
  have hc0 : c.getD 0 0 < m := P.lt _ (getD_mem (by rw [P.len]; exact o1.pos))
  -- one number of turns for both
  obtain ⟨_, f1, _⟩ := line_of o2 (key := id) (s := c.getD 0 0) (f := g) (by rw [thin_len]; exact hc0) (by rw [thin_len]; exact hg)
  obtain ⟨_, f2, _⟩ := line_of o2 (key := id) (s := c.getD 0 0) (f := m + rows.length) (by rw [thin_len]; exact hc0) (by rw [thin_len]; omega)
  obtain ⟨_, f3, _⟩ := line_of o (key := k0) (s := 0) (f := m + rows.length) o.pos (by omega)
  rw [f1, ← f2] at e2
  rw [← f3] at e3
  let R : Nat → Nat → Prop := fun p q => p < m ∧ q < rows.length ∧ ∀ w, Wd wd w → acc (thinR (canR id (nx rows) line) c m) (thinE (canE (fun s => decide (s ∈ ends)) line) c m) p w = acc rows ends q w
  have keys : ∀ a b a' b', R a b → R a' b' → (id a = id a' ↔ k0 b = k0 b') := fun a b a' b' ⟨a1, a2, a3⟩ ⟨b1, b2, b3⟩ => by
    rw [hk b b' a2 b2]
    constructor
    · intro e w hw
      have e : a = a' := e
      rw [← a3 w hw, ← b3 w hw, e]
    · intro e
      have q : c.getD (head c a) 0 = c.getD (head c a') 0 := (P.iff _ _ (head_lt P a1) (head_lt P b1)).mpr fun w hw => by
        rw [← thin_acc o1 P w a hw a1, ← thin_acc o1 P w a' hw b1, a3 w hw, b3 w hw, e w hw]
      rw [head_at P a1, head_at P b1] at q
      exact q
  have next : ∀ a b, R a b → Al R (nx (thinR (canR id (nx rows) line) c m) a) (nx rows b) := fun a b ⟨a1, a2, a3⟩ => by
    have la : (nx (thinR (canR id (nx rows) line) c m) a).length = wd := o2.nx_len (by rw [thin_len]; exact a1)
    have lb := o.nx_len a2
    refine al_of (by rw [la, lb]) fun i hi => ?_
    rw [la] at hi
    refine ⟨?_, o.stp_lt a2 hi, fun w hw => ?_⟩
    · have := o2.stp_lt (q := a) (a := i) (by rw [thin_len]; exact a1) hi
      rwa [thin_len] at this
    · exact a3 (i :: w) (hw.cons hi)
  have start : R (c.getD 0 0) 0 := by
    refine ⟨hc0, o.pos, fun w hw => ?_⟩
    rw [thin_acc o1 P w _ hw hc0]
    have e := (P.iff _ _ (head_lt P hc0) o1.pos).mp (head_at P hc0) w hw
    rw [e, can_acc o L (fun p q _ _ z => by
      have z : p = q := z
      rw [z]
      exact fun _ _ => rfl) w 0 hw L.pos, z0]
  have al : Al R l2 l3 := by
    rw [e2, e3]
    exact bfs_al keys next _ _ (.cons start .nil)
  exact ⟨can_al keys next al, canE_al (fun a b ⟨_, _, a3⟩ => a3 [] (fun _ h => by cases h)) al⟩
end
end MA
end

section
set_option Elab.async false
set_option linter.all false
set_option maxHeartbeats 2000000
/-! MD: the least text that a machine takes; two machines side by side -/
namespace MA
/-- texts: letters 1 .. wd; as numbers they stand in their order -/
def val (wd : Nat) (t : List Nat) : Nat := t.foldl (fun v a => v * (wd + 1) + a) 0
def Tx (wd : Nat) (t : List Nat) : Prop := ∀ a ∈ t, 1 ≤ a ∧ a ≤ wd
theorem val_snoc (wd : Nat) (t : List Nat) (a : Nat) : val wd (t ++ [a]) = val wd t * (wd + 1) + a := by
  unfold val
  rw [List.foldl_append]
  rfl
theorem Tx.snoc {wd : Nat} {t : List Nat} {a : Nat} (h : Tx wd t) (h1 : 1 ≤ a) (h2 : a ≤ wd) : Tx wd (t ++ [a]) := fun b hb => by
  rcases List.mem_append.mp hb with z | z
  · exact h b z
  · rw [List.mem_singleton.mp z]; exact ⟨h1, h2⟩
theorem Tx.of {wd : Nat} {t : List Nat} {a : Nat} (h : Tx wd (t ++ [a])) : Tx wd t ∧ 1 ≤ a ∧ a ≤ wd := ⟨fun b hb => h b (List.mem_append_left _ hb), h a (by simp)⟩
theorem val_inj {wd : Nat} : ∀ (n : Nat) {u v : List Nat}, u.length = n → Tx wd u → Tx wd v → val wd u = val wd v → u = v
  | 0, u, v, hn, hu, hv, e => by
    have : u = [] := List.length_eq_zero_iff.mp hn
    subst this
    rcases List.eq_nil_or_concat v with rfl | ⟨v', b, rfl⟩
    · rfl
    · rw [List.concat_eq_append] at hv e
      rw [val_snoc] at e
      have e : 0 = val wd v' * (wd + 1) + b := e
      have := (hv.of).2.1
      omega
  | n + 1, u, v, hn, hu, hv, e => by
    rcases List.eq_nil_or_concat u with rfl | ⟨u', a, rfl⟩
    · cases hn
    · rw [List.concat_eq_append] at hn hu e ⊢
      rw [val_snoc] at e
      rw [List.length_append, List.length_singleton] at hn
      rcases List.eq_nil_or_concat v with rfl | ⟨v', b, rfl⟩
      · have e : val wd u' * (wd + 1) + a = 0 := e
        have := (hu.of).2.1
        omega
      · rw [List.concat_eq_append] at hv e ⊢
        rw [val_snoc] at e
        obtain ⟨h1, h2, h3⟩ := hu.of
        obtain ⟨k1, k2, k3⟩ := hv.of
        have m1 : (val wd u' * (wd + 1) + a) % (wd + 1) = a := by rw [Nat.mul_add_mod_self_right, Nat.mod_eq_of_lt (by omega)]
        have m2 : (val wd v' * (wd + 1) + b) % (wd + 1) = b := by rw [Nat.mul_add_mod_self_right, Nat.mod_eq_of_lt (by omega)]
        have ab : a = b := by rw [← m1, e, m2]
        subst ab
        have q : val wd u' * (wd + 1) = val wd v' * (wd + 1) := by omega
        have q := Nat.eq_of_mul_eq_mul_right (by omega) q
        rw [val_inj n (by omega) h1 k1 q]
section
variable {S : Type} [DecidableEq S] {wd : Nat}
def wadd (line : List (List Nat × S)) (u : List Nat) (l : Nat) (g : S) : List (List Nat × S) := if g ∈ line.map (·.2) then line else line ++ [(u ++ [l], g)]
def wgrow (u : List Nat) : Nat → List S → List (List Nat × S) → List (List Nat × S)
  | _, [], line => line
  | l, g :: gs, line => wgrow u (l + 1) gs (wadd line u l g)
/-- the first state that is taken, by the text it is first come to with -/
def wbfs (next : S → List S) (ac : S → Bool) : Nat → Nat → List (List Nat × S) → Option (List Nat)
  | 0, _, _ => none
  | f + 1, t, line => match line[t]? with
    | none => none
    | some (u, s) => if ac s = true then some u else wbfs next ac f (t + 1) (wgrow u 1 (next s) line)
theorem wadd_pre (line : List (List Nat × S)) (u : List Nat) (l : Nat) (g : S) : line <+: wadd line u l g := by
  unfold wadd
  split
  · exact List.prefix_refl _
  · exact List.prefix_append _ _
theorem wgrow_pre (u : List Nat) : ∀ (gs : List S) (l : Nat) (line : List (List Nat × S)), line <+: wgrow u l gs line
  | [], _, line => List.prefix_refl _
  | g :: gs, l, line => (wadd_pre line u l g).trans (wgrow_pre u gs (l + 1) _)
theorem pre_at {α : Type} {l m : List α} (h : l <+: m) {i : Nat} {x : α} (hi : l[i]? = some x) : m[i]? = some x := by
  obtain ⟨s, rfl⟩ := h
  rw [List.getElem?_append_left (by exact (List.getElem?_eq_some_iff.mp hi).1)]
  exact hi
variable {next : S → List S} {stp1 : S → Nat → S} {s0 : S} {ok : S → Prop}
/-- the state behind a text -/
def wrun (stp1 : S → Nat → S) (s0 : S) (t : List Nat) : S := t.foldl stp1 s0
theorem wrun_snoc (t : List Nat) (a : Nat) : wrun stp1 s0 (t ++ [a]) = stp1 (wrun stp1 s0 t) a := by
  unfold wrun
  rw [List.foldl_append]
  rfl
/-- how the line stands with its first t done -/
structure WI (wd : Nat) (stp1 : S → Nat → S) (s0 : S) (ac : S → Bool) (ok : S → Prop) (t : Nat) (line : List (List Nat × S)) : Prop where
  tx : ∀ e ∈ line, Tx wd e.1 ∧ e.2 = wrun stp1 s0 e.1 ∧ ok e.2
  up : line.Pairwise fun e e' => val wd e.1 < val wd e'.1
  nd : (line.map (·.2)).Nodup
  nxt : ∀ i e, i < t → line[i]? = some e → ∀ l, 1 ≤ l → l ≤ wd → ∃ e' ∈ line, e'.2 = stp1 e.2 l ∧ val wd e'.1 ≤ val wd (e.1 ++ [l])
  no : ∀ i e, i < t → line[i]? = some e → ac e.2 = false
  fst : line[0]? = some ([], s0)
  top : ∀ e, line[t]? = some e → ∀ e' ∈ line, val wd e'.1 ≤ val wd e.1 * (wd + 1)
  le : t ≤ line.length
theorem up_lt {line : List (List Nat × S)} (up : line.Pairwise fun e e' => val wd e.1 < val wd e'.1) {i j : Nat} {e e' : List Nat × S} (hi : line[i]? = some e) (hj : line[j]? = some e') (h : val wd e.1 < val wd e'.1) : i < j := by
  obtain ⟨h1, h2⟩ := List.getElem?_eq_some_iff.mp hi
  obtain ⟨h3, h4⟩ := List.getElem?_eq_some_iff.mp hj
  rcases Nat.lt_trichotomy i j with z | z | z
  · exact z
  · subst z
    rw [h2] at h4
    subst h4
    omega
  · have := List.pairwise_iff_getElem.mp up j i h3 h1 z
    rw [h2, h4] at this
    omega
/-- whatever comes before the text of the t-th is come to before -/
theorem WI.before {ac : S → Bool} {t : Nat} {line : List (List Nat × S)} (W : WI wd stp1 s0 ac ok t line) {e : List Nat × S} (he : line[t]? = some e) : ∀ (n : Nat) {w : List Nat}, w.length = n → Tx wd w → val wd w < val wd e.1 →
    ∃ i e', i < t ∧ line[i]? = some e' ∧ e'.2 = wrun stp1 s0 w ∧ val wd e'.1 ≤ val wd w
  | 0, w, hn, hw, h => by
    have : w = [] := List.length_eq_zero_iff.mp hn
    subst this
    refine ⟨0, _, ?_, W.fst, rfl, Nat.le_refl _⟩
    rcases Nat.eq_zero_or_pos t with z | z
    · subst z
      rw [W.fst] at he
      cases he
      exact absurd h (Nat.lt_irrefl _)
    · exact z
  | n + 1, w, hn, hw, h => by
    rcases List.eq_nil_or_concat w with rfl | ⟨v, l, rfl⟩
    · cases hn
    · rw [List.concat_eq_append] at hn hw h ⊢
      rw [List.length_append, List.length_singleton] at hn
      obtain ⟨h1, h2, h3⟩ := hw.of
      have lt : val wd v < val wd e.1 := by
        rw [val_snoc] at h
        have : val wd v ≤ val wd v * (wd + 1) := Nat.le_mul_of_pos_right _ (by omega)
        omega
      obtain ⟨i, e1, hi, ei, es, ev⟩ := W.before he n (by omega) h1 lt
      obtain ⟨e2, m2, s2, v2⟩ := W.nxt i e1 hi ei l h2 h3
      have le : val wd e2.1 ≤ val wd (v ++ [l]) := by
        rw [val_snoc] at v2 ⊢
        have : val wd e1.1 * (wd + 1) ≤ val wd v * (wd + 1) := Nat.mul_le_mul_right _ ev
        omega
      obtain ⟨j, hj⟩ := List.mem_iff_getElem?.mp m2
      refine ⟨j, e2, up_lt W.up hj he (by omega), hj, ?_, le⟩
      rw [s2, es, wrun_snoc]
theorem WI.over {ac : S → Bool} {t : Nat} {line : List (List Nat × S)} (W : WI wd stp1 s0 ac ok t line) (h : line.length ≤ t) : ∀ (n : Nat) {w : List Nat}, w.length = n → Tx wd w → ∃ i e', i < t ∧ line[i]? = some e' ∧ e'.2 = wrun stp1 s0 w
  | 0, w, hn, hw => by
    have : w = [] := List.length_eq_zero_iff.mp hn
    subst this
    refine ⟨0, _, ?_, W.fst, rfl⟩
    have := (List.getElem?_eq_some_iff.mp W.fst).1
    omega
  | n + 1, w, hn, hw => by
    rcases List.eq_nil_or_concat w with rfl | ⟨v, l, rfl⟩
    · cases hn
    · rw [List.concat_eq_append] at hn hw ⊢
      rw [List.length_append, List.length_singleton] at hn
      obtain ⟨h1, h2, h3⟩ := hw.of
      obtain ⟨i, e1, hi, ei, es⟩ := W.over h n (by omega) h1
      obtain ⟨e2, m2, s2, v2⟩ := W.nxt i e1 hi ei l h2 h3
      obtain ⟨j, hj⟩ := List.mem_iff_getElem?.mp m2
      have := (List.getElem?_eq_some_iff.mp hj).1
      exact ⟨j, e2, by omega, hj, by rw [s2, es, wrun_snoc]⟩
/-- the letters from l on -/
theorem grow_wi {ac : S → Bool} {t : Nat} {u : List Nat} {s : S} (hs : ∀ l, 1 ≤ l → l ≤ wd → ok (stp1 s l)) (hu : Tx wd u) (es : s = wrun stp1 s0 u) : ∀ (gs : List S) (l : Nat) (line : List (List Nat × S)), 1 ≤ l → l + gs.length = wd + 1 → (∀ i g, gs[i]? = some g → g = stp1 s (l + i)) →
    (∀ e ∈ line, Tx wd e.1 ∧ e.2 = wrun stp1 s0 e.1 ∧ ok e.2) → (line.Pairwise fun e e' => val wd e.1 < val wd e'.1) → (line.map (·.2)).Nodup → (∀ e ∈ line, val wd e.1 < val wd u * (wd + 1) + l) →
    (∀ e ∈ wgrow u l gs line, Tx wd e.1 ∧ e.2 = wrun stp1 s0 e.1 ∧ ok e.2) ∧ ((wgrow u l gs line).Pairwise fun e e' => val wd e.1 < val wd e'.1) ∧ ((wgrow u l gs line).map (·.2)).Nodup ∧ (∀ e ∈ wgrow u l gs line, val wd e.1 < val wd u * (wd + 1) + (wd + 1)) ∧
      ∀ k, l ≤ k → k ≤ wd → ∃ e' ∈ wgrow u l gs line, e'.2 = stp1 s k ∧ val wd e'.1 ≤ val wd (u ++ [k])
  | [], l, line, h1, h2, _, a, b, c, d => by
    refine ⟨a, b, c, fun e he => ?_, fun k k1 k2 => ?_⟩
    · have := d e he
      simp only [List.length_nil, Nat.add_zero] at h2
      omega
    · simp only [List.length_nil, Nat.add_zero] at h2
      omega
  | g :: gs, l, line, h1, h2, hg, a, b, c, d => by
    rw [List.length_cons] at h2
    have eg : g = stp1 s l := hg 0 g rfl
    have key : (∀ e ∈ wadd line u l g, Tx wd e.1 ∧ e.2 = wrun stp1 s0 e.1 ∧ ok e.2) ∧ ((wadd line u l g).Pairwise fun e e' => val wd e.1 < val wd e'.1) ∧ ((wadd line u l g).map (·.2)).Nodup ∧ (∀ e ∈ wadd line u l g, val wd e.1 < val wd u * (wd + 1) + (l + 1)) ∧ ∃ e' ∈ wadd line u l g, e'.2 = stp1 s l ∧ val wd e'.1 ≤ val wd (u ++ [l]) := by
      unfold wadd
      split
      · rename_i hm
        obtain ⟨e', he', e2⟩ := List.mem_map.mp hm
        refine ⟨a, b, c, fun e he => by have := d e he; omega, e', he', by rw [e2, eg], ?_⟩
        rw [val_snoc]
        have := d e' he'
        omega
      · rename_i hm
        refine ⟨fun e he => ?_, ?_, ?_, fun e he => ?_, (u ++ [l], g), by simp, eg, Nat.le_refl _⟩
        · rcases List.mem_append.mp he with z | z
          · exact a e z
          · rw [List.mem_singleton.mp z]
            exact ⟨hu.snoc h1 (by omega), by rw [wrun_snoc, ← es]; exact eg, by rw [eg]; exact hs l h1 (by omega)⟩
        · refine List.pairwise_append.mpr ⟨b, List.pairwise_singleton _ _, fun e he e' he' => ?_⟩
          rw [List.mem_singleton.mp he', val_snoc]
          exact d e he
        · rw [List.map_append]
          refine List.nodup_append.mpr ⟨c, by simp, fun x hx y hy => ?_⟩
          have hy : y = g := by simpa using hy
          rw [hy]
          exact fun z => hm (z ▸ hx)
        · rcases List.mem_append.mp he with z | z
          · have := d e z; omega
          · rw [List.mem_singleton.mp z, val_snoc]; omega
    obtain ⟨a', b', c', d', e', he', e1, e2⟩ := key
    obtain ⟨r1, r2, r3, r4, r5⟩ := grow_wi (ac := ac) (t := t) hs hu es gs (l + 1) (wadd line u l g) (by omega) (by omega) (fun i x hx => by
      have := hg (i + 1) x (by simpa using hx)
      rw [this]
      congr 1
      omega) a' b' c' d'
    refine ⟨r1, r2, r3, r4, fun k k1 k2 => ?_⟩
    by_cases z : k = l
    · subst z
      exact ⟨e', (wgrow_pre u gs (k + 1) _).subset he', e1, e2⟩
    · exact r5 k (by omega) k2
theorem WI.more {ac : S → Bool} {t : Nat} {line : List (List Nat × S)} (W : WI wd stp1 s0 ac ok t line) (hok : ∀ s, ok s → ∀ l, 1 ≤ l → l ≤ wd → ok (stp1 s l)) (hn : ∀ s, ok s → (next s).length = wd ∧ ∀ i g, (next s)[i]? = some g → g = stp1 s (1 + i)) {u : List Nat} {s : S} (he : line[t]? = some (u, s)) (ha : ac s = false) : WI wd stp1 s0 ac ok (t + 1) (wgrow u 1 (next s) line) := by
  obtain ⟨h1, h2, h3⟩ := W.tx _ (List.mem_of_getElem? he)
  have h1 : Tx wd u := h1
  have h2 : s = wrun stp1 s0 u := h2
  have h3 : ok s := h3
  have pre := wgrow_pre u (next s) 1 line
  have lt := (List.getElem?_eq_some_iff.mp he).1
  obtain ⟨r1, r2, r3, r4, r5⟩ := grow_wi (ac := ac) (t := t) (hok s h3) h1 h2 (next s) 1 line (Nat.le_refl _) (by rw [(hn s h3).1]; omega) (hn s h3).2 W.tx W.up W.nd fun e me => by
    have := W.top _ he e me
    have : val wd e.1 ≤ val wd u * (wd + 1) := this
    omega
  refine ⟨r1, r2, r3, fun i e hi ei l l1 l2 => ?_, fun i e hi ei => ?_, pre_at pre W.fst, fun e ee e' me' => ?_, by have := pre.length_le; omega⟩
  · by_cases z : i = t
    · subst z
      rw [pre_at pre he] at ei
      cases ei
      exact r5 l l1 l2
    · have il : i < line.length := by omega
      have ei2 : line[i]? = some line[i] := List.getElem?_eq_getElem il
      rw [pre_at pre ei2] at ei
      cases ei
      obtain ⟨e', m', q⟩ := W.nxt i _ (by omega) ei2 l l1 l2
      exact ⟨e', pre.subset m', q⟩
  · by_cases z : i = t
    · subst z
      rw [pre_at pre he] at ei
      cases ei
      exact ha
    · have il : i < line.length := by omega
      have ei2 : line[i]? = some line[i] := List.getElem?_eq_getElem il
      rw [pre_at pre ei2] at ei
      cases ei
      exact W.no i _ (by omega) ei2
  · have v := r4 e' me'
    have q : val wd u < val wd e.1 := by
      obtain ⟨a1, a2⟩ := List.getElem?_eq_some_iff.mp (pre_at pre he)
      obtain ⟨b1, b2⟩ := List.getElem?_eq_some_iff.mp ee
      have := List.pairwise_iff_getElem.mp r2 t (t + 1) a1 b1 (Nat.lt_succ_self t)
      rw [a2, b2] at this
      exact this
    have : (val wd u + 1) * (wd + 1) ≤ val wd e.1 * (wd + 1) := Nat.mul_le_mul_right _ q
    rw [Nat.succ_mul] at this
    omega
/-- what is told: the least text that is taken, or that none is -/
def Told (wd : Nat) (T : List Nat → Bool) : Option (List Nat) → Prop
  | some u => Tx wd u ∧ T u = true ∧ ∀ w, Tx wd w → T w = true → val wd u ≤ val wd w
  | none => ∀ w, Tx wd w → T w = false
theorem told_one {T : List Nat → Bool} {x y : Option (List Nat)} (hx : Told wd T x) (hy : Told wd T y) : x = y := by
  cases x with
  | none =>
    cases y with
    | none => rfl
    | some v =>
      have := hx v hy.1
      rw [hy.2.1] at this
      cases this
  | some u =>
    cases y with
    | none =>
      have := hy u hx.1
      rw [hx.2.1] at this
      cases this
    | some v =>
      have h1 := hx.2.2 v hy.1 hy.2.1
      have h2 := hy.2.2 u hx.1 hx.2.1
      rw [val_inj u.length rfl hx.1 hy.1 (by omega)]
theorem wbfs_told {ac : S → Bool} {N : Nat} (hok : ∀ s, ok s → ∀ l, 1 ≤ l → l ≤ wd → ok (stp1 s l)) (hn : ∀ s, ok s → (next s).length = wd ∧ ∀ i g, (next s)[i]? = some g → g = stp1 s (1 + i)) (hN : ∀ l : List S, l.Nodup → (∀ s ∈ l, ok s) → l.length ≤ N) :
    ∀ (f t : Nat) (line : List (List Nat × S)), WI wd stp1 s0 ac ok t line → N < f + t → Told wd (fun w => ac (wrun stp1 s0 w)) (wbfs next ac f t line)
  | 0, t, line, W, h => by
    have h1 := hN _ W.nd fun s hs => by
      obtain ⟨e, he, rfl⟩ := List.mem_map.mp hs
      exact (W.tx e he).2.2
    rw [List.length_map] at h1
    have := W.le
    omega
  | f + 1, t, line, W, h => by
    unfold wbfs
    cases e : line[t]? with
    | none =>
      intro w hw
      obtain ⟨i, e', hi, ei, es⟩ := W.over (List.getElem?_eq_none_iff.mp e) w.length rfl hw
      have := W.no i e' hi ei
      rw [es] at this
      exact this
    | some p =>
      obtain ⟨u, s⟩ := p
      show Told wd _ (if ac s = true then some u else wbfs next ac f (t + 1) (wgrow u 1 (next s) line))
      split
      · rename_i ha
        obtain ⟨h1, h2, h3⟩ := W.tx _ (List.mem_of_getElem? e)
        have h2 : s = wrun stp1 s0 u := h2
        refine ⟨h1, by show ac (wrun stp1 s0 u) = true; rw [← h2]; exact ha, fun w hw hT => ?_⟩
        rcases Nat.lt_or_ge (val wd w) (val wd u) with z | z
        · obtain ⟨i, e', hi, ei, es, _⟩ := W.before e w.length rfl hw z
          have := W.no i e' hi ei
          rw [es] at this
          have hT : ac (wrun stp1 s0 w) = true := hT
          rw [hT] at this
          cases this
        · exact z
      · rename_i ha
        exact wbfs_told hok hn hN f (t + 1) _ (W.more hok hn e (by simpa using ha)) (by omega)
theorem wi_start {ac : S → Bool} (h : ok s0) : WI wd stp1 s0 ac ok 0 [([], s0)] where
  tx := fun e he => by
    rw [List.mem_singleton.mp he]
    exact ⟨fun _ z => (by cases z), rfl, h⟩
  up := List.pairwise_singleton _ _
  nd := by simp
  nxt := fun i e hi => by omega
  no := fun i e hi => by omega
  fst := rfl
  top := fun e he e' he' => by
    rw [List.mem_singleton.mp he']
    exact Nat.zero_le _
  le := Nat.zero_le _
end
end MA
end

section
set_option Elab.async false
set_option linter.all false
set_option maxHeartbeats 2000000
/-! ME: machines, plainly: two machines side by side -/
namespace MA
theorem flat_len {α β : Type} {f : α → List β} {m : Nat} : ∀ {xs : List α}, (∀ x ∈ xs, (f x).length = m) → (xs.flatMap f).length = xs.length * m
  | [], _ => by simp
  | x :: xs, h => by
    rw [List.flatMap_cons, List.length_append, h x List.mem_cons_self, flat_len fun y hy => h y (List.mem_cons_of_mem _ hy), List.length_cons, Nat.succ_mul, Nat.add_comm]
theorem flat_at {α β : Type} {f : α → List β} {m : Nat} {d : α} {e : β} : ∀ {xs : List α} {i j : Nat}, (∀ x ∈ xs, (f x).length = m) → i < xs.length → j < m → (xs.flatMap f).getD (i * m + j) e = (f (xs.getD i d)).getD j e
  | x :: xs, 0, j, h, _, hj => by
    have hx := h x List.mem_cons_self
    rw [List.flatMap_cons, Nat.zero_mul, Nat.zero_add, List.getD_eq_getElem?_getD, List.getElem?_append_left (by omega)]
    rfl
  | x :: xs, i + 1, j, h, hi, hj => by
    have hx := h x List.mem_cons_self
    have ih := flat_at (d := d) (e := e) (i := i) (j := j) (fun y hy => h y (List.mem_cons_of_mem _ hy)) (by rw [List.length_cons] at hi; omega) hj
    rw [List.flatMap_cons, List.getD_eq_getElem?_getD, List.getElem?_append_right (by rw [hx, Nat.succ_mul]; omega), hx]
    rw [show (i + 1) * m + j - m = i * m + j by rw [Nat.succ_mul]; omega, ← List.getD_eq_getElem?_getD, ih]
    rfl
/-- the rows of the two side by side -/
def sideRow (m : Nat) (row line : List Nat) : List Nat := (row.zip line).map fun p => p.1 * m + p.2
def sideR (r1 r2 : Rows) : Rows := r1.flatMap fun row => r2.map fun line => sideRow r2.length row line
def sideE (g : Bool → Bool → Bool) (n m : Nat) (e1 e2 : List Nat) : List Nat := (List.range n).flatMap fun near => ((List.range m).filter fun far => g (decide (near ∈ e1)) (decide (far ∈ e2))).map fun far => near * m + far
section
variable {wd : Nat} {r1 r2 : Rows} {e1 e2 : List Nat} {g : Bool → Bool → Bool}
theorem side_len : (sideR r1 r2).length = r1.length * r2.length := flat_len fun x _ => by rw [List.length_map]
theorem side_lt {n m i j : Nat} (hi : i < n) (hj : j < m) : i * m + j < n * m := by
  have : (i + 1) * m ≤ n * m := Nat.mul_le_mul_right _ hi
  rw [Nat.succ_mul] at this
  omega
theorem side_row {i j : Nat} (hi : i < r1.length) (hj : j < r2.length) : nx (sideR r1 r2) (i * r2.length + j) = sideRow r2.length (nx r1 i) (nx r2 j) := by
  unfold nx sideR
  rw [flat_at (d := []) (m := r2.length) (fun x _ => by rw [List.length_map]) hi hj, getD_map (e := []) hj]
theorem side_stp (o1 : Ok wd r1) (o2 : Ok wd r2) {i j a : Nat} (hi : i < r1.length) (hj : j < r2.length) (ha : a < wd) : stp (sideR r1 r2) (i * r2.length + j) a = stp r1 i a * r2.length + stp r2 j a := by
  show (nx (sideR r1 r2) _).getD a 0 = _
  rw [side_row hi hj]
  unfold sideRow
  have l1 := o1.nx_len hi
  have l2 := o2.nx_len hj
  rw [getD_map (e := (0, 0)) (by rw [List.length_zip]; omega)]
  have q : ((nx r1 i).zip (nx r2 j)).getD a (0, 0) = (stp r1 i a, stp r2 j a) := by
    unfold stp
    rw [List.getD_eq_getElem?_getD, List.getElem?_eq_getElem (by rw [List.length_zip]; omega), List.getElem_zip]
    show ((nx r1 i)[a], (nx r2 j)[a]) = ((nx r1 i).getD a 0, (nx r2 j).getD a 0)
    rw [List.getD_eq_getElem?_getD, List.getD_eq_getElem?_getD, List.getElem?_eq_getElem (by omega), List.getElem?_eq_getElem (by omega)]
    rfl
  rw [q]
theorem side_ok (o1 : Ok wd r1) (o2 : Ok wd r2) : Ok wd (sideR r1 r2) := by
  refine ⟨by rw [side_len]; exact Nat.mul_pos o1.pos o2.pos, fun r hr => ?_⟩
  unfold sideR at hr
  obtain ⟨row, h1, hr⟩ := List.mem_flatMap.mp hr
  obtain ⟨line, h2, rfl⟩ := List.mem_map.mp hr
  obtain ⟨a1, a2⟩ := o1.row row h1
  obtain ⟨b1, b2⟩ := o2.row line h2
  unfold sideRow
  refine ⟨by rw [List.length_map, List.length_zip]; omega, fun x hx => ?_⟩
  obtain ⟨p, hp, rfl⟩ := List.mem_map.mp hx
  obtain ⟨z1, z2⟩ := List.of_mem_zip hp
  rw [side_len]
  exact side_lt (a2 _ z1) (b2 _ z2)
theorem mem_sideE {n m i j : Nat} (hi : i < n) (hj : j < m) : i * m + j ∈ sideE g n m e1 e2 ↔ g (decide (i ∈ e1)) (decide (j ∈ e2)) = true := by
  unfold sideE
  rw [List.mem_flatMap]
  constructor
  · rintro ⟨i', hi', h⟩
    obtain ⟨j', hj', e⟩ := List.mem_map.mp h
    rw [List.mem_filter, List.mem_range] at hj'
    have m1 : (i' * m + j') / m = i' := by rw [Nat.mul_comm, Nat.mul_add_div (by omega), Nat.div_eq_of_lt hj'.1]; omega
    have m2 : (i * m + j) / m = i := by rw [Nat.mul_comm, Nat.mul_add_div (by omega), Nat.div_eq_of_lt hj]; omega
    have ei : i' = i := by rw [← m1, e, m2]
    subst ei
    have ej : j' = j := by omega
    subst ej
    exact hj'.2
  · intro h
    exact ⟨i, List.mem_range.mpr hi, List.mem_map.mpr ⟨j, List.mem_filter.mpr ⟨List.mem_range.mpr hj, h⟩, rfl⟩⟩
theorem side_acc (o1 : Ok wd r1) (o2 : Ok wd r2) : ∀ (w : List Nat) (i j : Nat), Wd wd w → i < r1.length → j < r2.length → acc (sideR r1 r2) (sideE g r1.length r2.length e1 e2) (i * r2.length + j) w = g (acc r1 e1 i w) (acc r2 e2 j w)
  | [], i, j, _, hi, hj => by
    show decide (i * r2.length + j ∈ sideE g r1.length r2.length e1 e2) = g (decide (i ∈ e1)) (decide (j ∈ e2))
    rw [Bool.eq_iff_iff, decide_eq_true_eq, mem_sideE hi hj]
  | a :: w, i, j, hw, hi, hj => by
    have ha := hw a List.mem_cons_self
    rw [acc_cons, acc_cons, acc_cons, side_stp o1 o2 hi hj ha]
    exact side_acc o1 o2 w _ _ (fun b hb => hw b (List.mem_cons_of_mem _ hb)) (o1.stp_lt hi ha) (o2.stp_lt hj ha)
/-- a number for each way to do -/
theorem kinds_are (wd : Nat) (rows : Rows) (ends : List Nat) : ∃ k0 : Nat → Nat, ∀ p q, p < rows.length → q < rows.length → (k0 p = k0 q ↔ Eqv wd rows ends p q) := by
  classical
  refine ⟨fun p => (List.range rows.length).findIdx fun q => decide (Eqv wd rows ends p q), fun p q hp hq => ⟨fun h => ?_, fun h => ?_⟩⟩
  · have at_ : ∀ p, p < rows.length → Eqv wd rows ends p ((List.range rows.length).findIdx fun q => decide (Eqv wd rows ends p q)) := fun p hp => by
      have hi : ((List.range rows.length).findIdx fun q => decide (Eqv wd rows ends p q)) < (List.range rows.length).length := List.findIdx_lt_length_of_exists ⟨p, List.mem_range.mpr hp, decide_eq_true fun _ _ => rfl⟩
      have := List.findIdx_getElem (w := hi)
      rw [List.getElem_range] at this
      exact of_decide_eq_true this
    have a := at_ p hp
    have b := at_ q hq
    have h : ((List.range rows.length).findIdx fun x => decide (Eqv wd rows ends p x)) = (List.range rows.length).findIdx fun x => decide (Eqv wd rows ends q x) := h
    rw [h] at a
    exact fun w hw => (a w hw).trans (b w hw).symm
  · have : (fun x => decide (Eqv wd rows ends p x)) = fun x => decide (Eqv wd rows ends q x) := by
      funext x
      rw [decide_eq_decide]
      exact ⟨fun z w hw => (h w hw).symm.trans (z w hw), fun z w hw => (h w hw).trans (z w hw)⟩
    show (List.range rows.length).findIdx (fun x => decide (Eqv wd rows ends p x)) = (List.range rows.length).findIdx (fun x => decide (Eqv wd rows ends q x))
    rw [this]
end
end MA
end

section
set_option Elab.async false
set_option linter.all false
set_option maxHeartbeats 2000000
/-! MF: machines, plainly: parts by sorted rows of numbers -/
namespace MA
open PySem DL
/-- the place of a key among all, sorted -/
def rk (ks : List NestedKey) (k : NestedKey) : Nat := (setK ks).findIdx fun z => decide (z = k)
def size (ks : List NestedKey) : Nat := (setK ks).length
theorem rk_lt {ks : List NestedKey} {k : NestedKey} (h : k ∈ ks) : rk ks k < size ks := List.findIdx_lt_length_of_exists ⟨k, setK_mem.mpr h, by simp⟩
theorem rk_at {ks : List NestedKey} {k : NestedKey} (h : k ∈ ks) : (setK ks)[rk ks k]? = some k := by
  have hi := rk_lt h
  have := List.findIdx_getElem (w := hi)
  rw [List.getElem?_eq_getElem hi]
  exact congrArg some (of_decide_eq_true this)
theorem rk_inj {ks : List NestedKey} {k k' : NestedKey} (h : k ∈ ks) (h' : k' ∈ ks) : rk ks k = rk ks k' ↔ k = k' := by
  constructor
  · intro e
    have a := rk_at h
    rw [e, rk_at h'] at a
    exact (Option.some.inj a).symm
  · intro e; rw [e]
theorem rk_hit {ks : List NestedKey} {j : Nat} (h : j < size ks) : ∃ k ∈ ks, rk ks k = j := by
  have hj : (setK ks)[j]? = some (setK ks)[j] := List.getElem?_eq_getElem h
  have hm : (setK ks)[j] ∈ ks := setK_mem.mp (List.getElem_mem h)
  refine ⟨_, hm, ?_⟩
  have a := rk_at hm
  have hi := rk_lt hm
  obtain ⟨_, e⟩ := List.getElem?_eq_some_iff.mp a
  have nd := List.pairwise_iff_getElem.mp (setK_nodup ks)
  rcases Nat.lt_trichotomy (rk ks (setK ks)[j]) j with z | z | z
  · exact absurd e (nd _ _ hi h z)
  · exact z
  · exact absurd e.symm (nd _ _ h hi z)
/-- a round: keys of all states, then their places -/
def keysOf (kf : List Nat → List Nat → Nat → NestedKey) (rows : Rows) (c : List Nat) : List NestedKey := (List.range rows.length).map fun s => kf c (nx rows s) s
def rnd (kf : List Nat → List Nat → Nat → NestedKey) (rows : Rows) (c : List Nat) : List Nat := (keysOf kf rows c).map (rk (keysOf kf rows c))
/-- the keys tell apart numbers and rows of numbers -/
def Tells (kf : List Nat → List Nat → Nat → NestedKey) : Prop := ∀ (c r1 r2 : List Nat) (p q : Nat), r1.length = r2.length → (kf c r1 p = kf c r2 q ↔ c.getD p 0 = c.getD q 0 ∧ (r1.map fun g => c.getD g 0) = r2.map fun g => c.getD g 0)
def numOf (n : Nat) : NestedKey := .num (n : Int)
theorem num_inj {a b : Nat} : numOf a = numOf b ↔ a = b := by
  unfold numOf
  constructor
  · intro h
    have h := NestedKey.num.inj h
    exact Int.ofNat.inj h
  · intro h; rw [h]
theorem nums_inj {c : List Nat} : ∀ {r1 r2 : List Nat}, (r1.map fun g => numOf (c.getD g 0)) = (r2.map fun g => numOf (c.getD g 0)) ↔ (r1.map fun g => c.getD g 0) = r2.map fun g => c.getD g 0
  | [], [] => by simp
  | [], _ :: _ => by simp
  | _ :: _, [] => by simp
  | a :: r1, b :: r2 => by
    rw [List.map_cons, List.map_cons, List.map_cons, List.map_cons, List.cons.injEq, List.cons.injEq, num_inj, nums_inj]
/-- the program's keys, and the law's -/
def kfP (c r : List Nat) (s : Nat) : NestedKey := .tup (numOf (c.getD s 0) :: r.map fun g => numOf (c.getD g 0))
def kfL (c r : List Nat) (s : Nat) : NestedKey := .tup [numOf (c.getD s 0), .tup (r.map fun g => numOf (c.getD g 0))]
theorem tells_P : Tells kfP := fun c r1 r2 p q _ => by
  unfold kfP
  rw [NestedKey.tup.injEq, List.cons.injEq, num_inj, nums_inj]
theorem tells_L : Tells kfL := fun c r1 r2 p q _ => by
  unfold kfL
  rw [NestedKey.tup.injEq, List.cons.injEq, List.cons.injEq, NestedKey.tup.injEq, num_inj, nums_inj]
  simp
section
variable {wd : Nat} {rows : Rows} {ends : List Nat} {kf : List Nat → List Nat → Nat → NestedKey}
theorem keys_len {c : List Nat} : (keysOf kf rows c).length = rows.length := by
  unfold keysOf
  rw [List.length_map, List.length_range]
theorem rnd_len {c : List Nat} : (rnd kf rows c).length = rows.length := by
  unfold rnd
  rw [List.length_map, keys_len]
theorem keys_at {c : List Nat} {p : Nat} (hp : p < rows.length) : (keysOf kf rows c)[p]? = some (kf c (nx rows p) p) := by
  unfold keysOf
  rw [List.getElem?_map, List.getElem?_range hp]
  rfl
theorem rnd_at {c : List Nat} {p : Nat} (hp : p < rows.length) : (rnd kf rows c).getD p 0 = rk (keysOf kf rows c) (kf c (nx rows p) p) := by
  unfold rnd
  rw [List.getD_eq_getElem?_getD, List.getElem?_map, keys_at hp]
  rfl
theorem row_eq {c : List Nat} {r1 r2 : List Nat} (h1 : r1.length = wd) (h2 : r2.length = wd) : ((r1.map fun g => c.getD g 0) = r2.map fun g => c.getD g 0) ↔ ∀ a, a < wd → c.getD (r1.getD a 0) 0 = c.getD (r2.getD a 0) 0 := by
  constructor
  · intro e a ha
    have : (r1.map fun g => c.getD g 0).getD a 0 = (r2.map fun g => c.getD g 0).getD a 0 := by rw [e]
    rw [getD_map (e := 0) (by omega), getD_map (e := 0) (by omega)] at this
    exact this
  · intro h
    refine List.ext_getElem (by simp [h1, h2]) fun i k1 k2 => ?_
    rw [List.length_map] at k1 k2
    have := h i (by omega)
    rw [List.getElem_map, List.getElem_map]
    rw [List.getD_eq_getElem?_getD (l := r1), List.getD_eq_getElem?_getD (l := r2), List.getElem?_eq_getElem k1, List.getElem?_eq_getElem k2] at this
    exact this
theorem rnd_rd (T : Tells kf) (o : Ok wd rows) {k : Nat} {c : List Nat} (r : Rd wd rows ends k c) : Rd wd rows ends (k + 1) (rnd kf rows c) := by
  refine r.next o rnd_len fun p q hp hq => ?_
  have lp := o.nx_len hp
  have lq := o.nx_len hq
  rw [rnd_at hp, rnd_at hq, rk_inj (List.mem_of_getElem? (keys_at hp)) (List.mem_of_getElem? (keys_at hq)), T c _ _ p q (by rw [lp, lq]), row_eq lp lq]
  rfl
/-- the numbers to start with -/
def first (rows : Rows) (ends : List Nat) : List Nat := (List.range rows.length).map fun s => if s ∈ ends then 1 else 0
theorem first_rd : Rd wd rows ends 0 (first rows ends) := by
  refine ⟨by unfold first; rw [List.length_map, List.length_range], fun p q hp hq => ?_⟩
  have at_ : ∀ p, p < rows.length → (first rows ends).getD p 0 = if p ∈ ends then 1 else 0 := fun p hp => by
    unfold first
    rw [List.getD_eq_getElem?_getD, List.getElem?_map, List.getElem?_range hp]
    rfl
  rw [at_ p hp, at_ q hq, Eqk.zero]
  by_cases h1 : p ∈ ends <;> by_cases h2 : q ∈ ends <;> simp [h1, h2]
/-- the law's: as many rounds as there are states -/
def laps (kf : List Nat → List Nat → Nat → NestedKey) (rows : Rows) (ends : List Nat) : Nat → List Nat
  | 0 => first rows ends
  | k + 1 => rnd kf rows (laps kf rows ends k)
theorem laps_rd (T : Tells kf) (o : Ok wd rows) : ∀ k, Rd wd rows ends k (laps kf rows ends k)
  | 0 => first_rd
  | k + 1 => rnd_rd T o (laps_rd T o k)
theorem laps_all (T : Tells kf) (o : Ok wd rows) {p q : Nat} (hp : p < rows.length) (hq : q < rows.length) : (laps kf rows ends rows.length).getD p 0 = (laps kf rows ends rows.length).getD q 0 ↔ Eqv wd rows ends p q :=
  rd_all o (laps kf rows ends) (laps_rd T o) hp hq
/-- a round whose numbers are no more than before gives the parts -/
theorem rnd_parts (T : Tells kf) (o : Ok wd rows) {k : Nat} {c : List Nat} (r : Rd wd rows ends k c) (h : cnt (rnd kf rows c) ≤ cnt c) : Parts wd rows ends (rnd kf rows c) (size (keysOf kf rows c)) := by
  have r' := rnd_rd T o r
  have st := r.still r' h
  refine ⟨rnd_len, fun x hx => ?_, fun j hj => ?_, fun p q hp hq => ?_⟩
  · obtain ⟨y, hy, rfl⟩ := List.mem_map.mp hx
    exact rk_lt hy
  · obtain ⟨y, hy, e⟩ := rk_hit hj
    exact List.mem_map.mpr ⟨y, hy, e⟩
  · rw [r'.iff p q hp hq, ← st.eqv o hp hq]
    constructor
    · exact fun e => e.mono (Nat.le_succ k)
    · exact fun e => st p q hp hq e
/-- the program's loop: on while the numbers grow more -/
def ploop (kf : List Nat → List Nat → Nat → NestedKey) (rows : Rows) : Nat → List Nat → Nat → List Nat
  | 0, c, _ => c
  | f + 1, c, many => if many < cnt c then ploop kf rows f (rnd kf rows c) (cnt c) else c
theorem ploop_is (T : Tells kf) (o : Ok wd rows) : ∀ (f k : Nat) (c0 : List Nat), Rd wd rows ends k c0 → rows.length < f + cnt c0 → ∃ k' c1, Rd wd rows ends k' c1 ∧ ploop kf rows f (rnd kf rows c0) (cnt c0) = rnd kf rows c1 ∧ cnt (rnd kf rows c1) ≤ cnt c1
  | 0, k, c0, r, h => by
    have := cnt_le c0
    rw [r.len] at this
    omega
  | f + 1, k, c0, r, h => by
    unfold ploop
    split
    · rename_i hc
      exact ploop_is T o f (k + 1) _ (rnd_rd T o r) (by omega)
    · rename_i hc
      exact ⟨k, c0, r, rfl, by omega⟩
theorem ploop_parts (T : Tells kf) (o : Ok wd rows) {f : Nat} (hf : rows.length ≤ f) : ∃ c1, ploop kf rows (f + 1) (first rows ends) 0 = rnd kf rows c1 ∧ Parts wd rows ends (rnd kf rows c1) (size (keysOf kf rows c1)) := by
  have r0 : Rd wd rows ends 0 (first rows ends) := first_rd
  have h0 : 0 < cnt (first rows ends) := cnt_pos (by rw [r0.len]; exact o.pos)
  obtain ⟨k, c1, r, e, h⟩ := ploop_is T o f 0 _ r0 (by omega)
  refine ⟨c1, ?_, rnd_parts T o r h⟩
  rw [← e]
  show (if 0 < cnt (first rows ends) then ploop kf rows f (rnd kf rows (first rows ends)) (cnt (first rows ends)) else first rows ends) = _
  rw [if_pos h0]
end
end MA
end

section
set_option Elab.async false
set_option linter.all false
set_option maxHeartbeats 2000000
/-! MG: machines, plainly: the program's least machine is the law's; the least text that parts -/
namespace MA
def comeTo (N : Nat) (rows : Rows) (s : Nat) : List Nat := bfs id (nx rows) N 0 [s]
def renR (N : Nat) (rows : Rows) (s : Nat) : Rows := canR id (nx rows) (comeTo N rows s)
def renE (N : Nat) (rows : Rows) (ends : List Nat) (s : Nat) : List Nat := canE (fun x => decide (x ∈ ends)) (comeTo N rows s)
def partsOf (N : Nat) (rows : Rows) (ends : List Nat) : List Nat := ploop kfP rows (N + 1) (first rows ends) 0
def mx (xs : List Nat) : Nat := xs.foldl max 0
theorem mx_is {xs : List Nat} {m : Nat} (h1 : ∀ x ∈ xs, x < m) (h2 : ∀ j, j < m → j ∈ xs) (h3 : 0 < m) : mx xs + 1 = m := by
  have ge : ∀ (l : List Nat) (a : Nat), a ≤ l.foldl max a ∧ (∀ x ∈ l, x ≤ l.foldl max a) ∧ (l.foldl max a = a ∨ l.foldl max a ∈ l) := by
    intro l
    induction l with
    | nil => intro a; exact ⟨Nat.le_refl _, fun x hx => (by cases hx), .inl rfl⟩
    | cons y l ih =>
      intro a
      obtain ⟨i1, i2, i3⟩ := ih (max a y)
      refine ⟨Nat.le_trans (Nat.le_max_left _ _) i1, fun x hx => ?_, ?_⟩
      · rcases List.mem_cons.mp hx with e | hx
        · rw [e]; exact Nat.le_trans (Nat.le_max_right _ _) i1
        · exact i2 x hx
      · rcases i3 with e | e
        · rw [List.foldl_cons, e]
          rcases Nat.le_total a y with z | z
          · rw [Nat.max_eq_right z]; exact .inr List.mem_cons_self
          · rw [Nat.max_eq_left z]; exact .inl rfl
        · exact .inr (List.mem_cons_of_mem _ e)
  obtain ⟨_, g2, g3⟩ := ge xs 0
  have a := g2 (m - 1) (h2 (m - 1) (by omega))
  unfold mx
  rcases g3 with e | e
  · omega
  · have := h1 _ e
    omega
def leastR (N : Nat) (rows : Rows) (ends : List Nat) : Rows :=
  let r := renR N rows 0
  let c := partsOf N r (renE N rows ends 0)
  renR N (thinR r c (mx c + 1)) (c.getD 0 0)
def leastE (N : Nat) (rows : Rows) (ends : List Nat) : List Nat :=
  let r := renR N rows 0
  let e := renE N rows ends 0
  let c := partsOf N r e
  renE N (thinR r c (mx c + 1)) (thinE e c (mx c + 1)) (c.getD 0 0)
section
variable {wd N : Nat} {rows : Rows} {ends : List Nat}
theorem least_any (o : Ok wd rows) (hl : rows.length ≤ N) {k0 : Nat → Nat} (hk : ∀ p q, p < rows.length → q < rows.length → (k0 p = k0 q ↔ Eqv wd rows ends p q)) :
    leastR N rows ends = canR k0 (nx rows) (bfs k0 (nx rows) rows.length 0 [0]) ∧ leastE N rows ends = canE (fun x => decide (x ∈ ends)) (bfs k0 (nx rows) rows.length 0 [0]) := by
  obtain ⟨L, _, _⟩ := line_of o (key := id) (s := 0) (f := N) o.pos (by omega)
  have o1 : Ok wd (renR N rows 0) := can_ok o L
  have l1 : (renR N rows 0).length ≤ N := by
    unfold renR
    rw [can_len]
    have := nodup_le (knd_nodup L.nd) L.lt
    unfold comeTo
    omega
  obtain ⟨c1, e1, P⟩ := ploop_parts (ends := renE N rows ends 0) tells_P o1 (f := N) l1
  have em : mx (partsOf N (renR N rows 0) (renE N rows ends 0)) + 1 = size (keysOf kfP (renR N rows 0) c1) := by
    unfold partsOf
    rw [e1]
    exact mx_is P.lt P.hit (parts_pos o1 P)
  have ec : partsOf N (renR N rows 0) (renE N rows ends 0) = rnd kfP (renR N rows 0) c1 := e1
  have sz : size (keysOf kfP (renR N rows 0) c1) ≤ N := by
    have : size (keysOf kfP (renR N rows 0) c1) ≤ (rnd kfP (renR N rows 0) c1).length := by
      have := List.Nodup.length_le_of_subset (List.nodup_range (n := size (keysOf kfP (renR N rows 0) c1))) fun j hj => P.hit j (List.mem_range.mp hj)
      rwa [List.length_range] at this
    rw [rnd_len] at this
    omega
  have key := least_one o (k0 := k0) (line := comeTo N rows 0) (c := rnd kfP (renR N rows 0) c1) (m := size (keysOf kfP (renR N rows 0) c1)) (f := N) (g := N) hk (by omega) rfl P sz rfl rfl
  unfold leastR leastE
  rw [ec] at em
  simp only [ec, em]
  exact key
end
end MA
end

section
set_option Elab.async false
set_option linter.all false
set_option maxHeartbeats 2000000
/-! MH: machines, plainly: what the least machine takes; the least text that parts two machines -/
namespace MA
section
variable {wd N : Nat} {rows : Rows} {ends : List Nat}
theorem least_ok (o : Ok wd rows) (hl : rows.length ≤ N) : Ok wd (leastR N rows ends) ∧ (leastR N rows ends).length ≤ rows.length ∧ ∀ w, Wd wd w → acc (leastR N rows ends) (leastE N rows ends) 0 w = acc rows ends 0 w := by
  obtain ⟨k0, hk⟩ := kinds_are wd rows ends
  obtain ⟨h1, h2⟩ := least_any o hl hk
  obtain ⟨L, _, z⟩ := line_of o (key := k0) (s := 0) (f := rows.length) o.pos (Nat.le_refl _)
  rw [h1, h2]
  refine ⟨can_ok o L, ?_, fun w hw => ?_⟩
  · rw [can_len]
    exact nodup_le (knd_nodup L.nd) L.lt
  · rw [can_acc o L (fun p q hp hq e => (hk p q hp hq).mp e) w 0 hw L.pos, z]
/-- letters 1 .. wd to places 0 .. wd - 1 -/
def low (t : List Nat) : List Nat := t.map fun l => l - 1
theorem low_wd {t : List Nat} (h : Tx wd t) : Wd wd (low t) := fun a ha => by
  obtain ⟨l, hl, rfl⟩ := List.mem_map.mp ha
  have := h l hl
  omega
def stp1 (rows : Rows) (s l : Nat) : Nat := stp rows s (l - 1)
theorem wrun_run (s : Nat) : ∀ t : List Nat, wrun (stp1 rows) s t = run rows s (low t) := fun t => by
  unfold wrun run low
  rw [List.foldl_map]
  rfl
theorem nx_step (o : Ok wd rows) {s : Nat} (hs : s < rows.length) : (nx rows s).length = wd ∧ ∀ i g, (nx rows s)[i]? = some g → g = stp1 rows s (1 + i) := by
  refine ⟨o.nx_len hs, fun i g h => ?_⟩
  unfold stp1 stp
  rw [show 1 + i - 1 = i by omega, List.getD_eq_getElem?_getD, show rows.getD s [] = nx rows s from rfl, h]
  rfl
/-- the first text that a machine takes -/
def firstOf (N : Nat) (rows : Rows) (ends : List Nat) : Option (List Nat) := wbfs (nx rows) (fun s => decide (s ∈ ends)) N 0 [([], 0)]
theorem firstOf_told (o : Ok wd rows) (h : rows.length < N) : Told wd (fun w => acc rows ends 0 (low w)) (firstOf N rows ends) := by
  have := wbfs_told (wd := wd) (next := nx rows) (stp1 := stp1 rows) (s0 := 0) (ok := fun s => s < rows.length) (ac := fun s => decide (s ∈ ends)) (N := rows.length)
    (fun s hs l h1 h2 => o.stp_lt hs (by omega)) (fun s hs => nx_step o hs) (fun l nd hl => nodup_le nd hl) N 0 [([], 0)] (wi_start o.pos) (by omega)
  have e : (fun w => decide (wrun (stp1 rows) 0 w ∈ ends)) = fun w => acc rows ends 0 (low w) := by
    funext w
    rw [wrun_run]
    rfl
  rw [e] at this
  exact this
end
section
variable {wd N M : Nat} {r1 r2 : Rows} {e1 e2 : List Nat}
/-- pairs of states -/
def nx2 (r1 r2 : Rows) (p : Nat × Nat) : List (Nat × Nat) := (nx r1 p.1).zip (nx r2 p.2)
def stp2 (r1 r2 : Rows) (p : Nat × Nat) (l : Nat) : Nat × Nat := (stp1 r1 p.1 l, stp1 r2 p.2 l)
def partOf (N : Nat) (r1 r2 : Rows) (e1 e2 : List Nat) : Option (List Nat) := wbfs (nx2 r1 r2) (fun p => decide (p.1 ∈ e1) != decide (p.2 ∈ e2)) N 0 [([], (0, 0))]
theorem wrun2 : ∀ (t : List Nat) (p : Nat × Nat), wrun (stp2 r1 r2) p t = (wrun (stp1 r1) p.1 t, wrun (stp1 r2) p.2 t)
  | [], _ => rfl
  | a :: t, p => wrun2 t (stp2 r1 r2 p a)
theorem pairs_le {n m : Nat} {l : List (Nat × Nat)} (nd : l.Nodup) (h : ∀ p ∈ l, p.1 < n ∧ p.2 < m) : l.length ≤ n * m := by
  have h2 : (l.map fun p => p.1 * m + p.2).Nodup := by
    refine List.pairwise_map.mpr (nd.imp_of_mem fun {a b} ha hb ne e => ne ?_)
    have a2 := (h a ha).2
    have b2 := (h b hb).2
    have m1 : (a.1 * m + a.2) / m = a.1 := by rw [Nat.mul_comm, Nat.mul_add_div (by omega), Nat.div_eq_of_lt a2]; omega
    have m2 : (b.1 * m + b.2) / m = b.1 := by rw [Nat.mul_comm, Nat.mul_add_div (by omega), Nat.div_eq_of_lt b2]; omega
    have e1 : a.1 = b.1 := by rw [← m1, e, m2]
    have e2 : a.2 = b.2 := by rw [e1] at e; omega
    exact Prod.ext e1 e2
  have := nodup_le (n := n * m) h2 fun x hx => by
    obtain ⟨p, hp, rfl⟩ := List.mem_map.mp hx
    exact side_lt (h p hp).1 (h p hp).2
  rwa [List.length_map] at this
theorem partOf_told (o1 : Ok wd r1) (o2 : Ok wd r2) (h : r1.length * r2.length < N) : Told wd (fun w => acc r1 e1 0 (low w) != acc r2 e2 0 (low w)) (partOf N r1 r2 e1 e2) := by
  have := wbfs_told (wd := wd) (next := nx2 r1 r2) (stp1 := stp2 r1 r2) (s0 := (0, 0)) (ok := fun p => p.1 < r1.length ∧ p.2 < r2.length) (ac := fun p => decide (p.1 ∈ e1) != decide (p.2 ∈ e2)) (N := r1.length * r2.length)
    (fun s hs l h1 h2 => ⟨o1.stp_lt hs.1 (by omega), o2.stp_lt hs.2 (by omega)⟩) (fun s hs => ⟨by unfold nx2; rw [List.length_zip, o1.nx_len hs.1, o2.nx_len hs.2, Nat.min_self], fun i g h => by
      unfold nx2 at h
      rw [List.getElem?_zip_eq_some] at h
      exact Prod.ext ((nx_step o1 hs.1).2 i _ h.1) ((nx_step o2 hs.2).2 i _ h.2)⟩) (fun l nd hl => pairs_le nd hl) N 0 [([], (0, 0))] (wi_start ⟨o1.pos, o2.pos⟩) (by omega)
  have e : (fun w => decide ((wrun (stp2 r1 r2) (0, 0) w).1 ∈ e1) != decide ((wrun (stp2 r1 r2) (0, 0) w).2 ∈ e2)) = fun w => acc r1 e1 0 (low w) != acc r2 e2 0 (low w) := by
    funext w
    rw [wrun2, wrun_run, wrun_run]
    rfl
  rw [e] at this
  exact this
/-- the least text that parts the two: by the least machine of the two side by side, and by pairs -/
theorem part_one (o1 : Ok wd r1) (o2 : Ok wd r2) (h : r1.length * r2.length < N) (k : r1.length * r2.length < M) :
    firstOf N (leastR N (sideR r1 r2) (sideE (fun a b => a != b) r1.length r2.length e1 e2)) (leastE N (sideR r1 r2) (sideE (fun a b => a != b) r1.length r2.length e1 e2)) = partOf M r1 r2 e1 e2 := by
  have os := side_ok o1 o2
  obtain ⟨q1, q2, q3⟩ := least_ok (N := N) (ends := sideE (fun a b => a != b) r1.length r2.length e1 e2) os (by rw [side_len]; omega)
  rw [side_len] at q2
  have t1 := firstOf_told (N := N) (ends := leastE N (sideR r1 r2) (sideE (fun a b => a != b) r1.length r2.length e1 e2)) q1 (by omega)
  have t2 := partOf_told (e1 := e1) (e2 := e2) o1 o2 k
  have same : ∀ w, Tx wd w → acc (leastR N (sideR r1 r2) (sideE (fun a b => a != b) r1.length r2.length e1 e2)) (leastE N (sideR r1 r2) (sideE (fun a b => a != b) r1.length r2.length e1 e2)) 0 (low w) = (acc r1 e1 0 (low w) != acc r2 e2 0 (low w)) := fun w hw => by
    rw [q3 _ (low_wd hw)]
    have := side_acc (g := fun a b => a != b) (e1 := e1) (e2 := e2) o1 o2 (low w) 0 0 (low_wd hw) o1.pos o2.pos
    rw [Nat.zero_mul, Nat.zero_add] at this
    exact this
  refine told_one (T := fun w => acc r1 e1 0 (low w) != acc r2 e2 0 (low w)) ?_ t2
  cases e : firstOf N (leastR N (sideR r1 r2) (sideE (fun a b => a != b) r1.length r2.length e1 e2)) (leastE N (sideR r1 r2) (sideE (fun a b => a != b) r1.length r2.length e1 e2)) with
  | none =>
    rw [e] at t1
    exact fun w hw => (same w hw).symm.trans (t1 w hw)
  | some u =>
    rw [e] at t1
    exact ⟨t1.1, (same u t1.1).symm.trans t1.2.1, fun w hw hT => t1.2.2 w hw ((same w hw).trans hT)⟩
end
end MA
end

section
set_option Elab.async false
set_option linter.all false
set_option maxHeartbeats 2000000
/-! MI: machines, plainly: the line turn by turn -/
namespace MA
section
variable {key : Nat → Nat} {next : Nat → List Nat}
theorem bfs_stop : ∀ (f t : Nat) (line : List Nat), line.length ≤ t → bfs key next f t line = line
  | 0, _, _, _ => rfl
  | f + 1, t, line, h => by rw [bfs, if_neg (by omega)]
theorem bfs_succ : ∀ (f t : Nat) (line : List Nat), t ≤ line.length → bfs key next (f + 1) t line = if t + f < (bfs key next f t line).length then grow key (bfs key next f t line) (next ((bfs key next f t line).getD (t + f) 0)) else bfs key next f t line
  | 0, t, line, h => by
    rw [bfs]
    show (if t < line.length then bfs key next 0 (t + 1) _ else line) = if t + 0 < line.length then _ else line
    rfl
  | f + 1, t, line, h => by
    by_cases hl : t < line.length
    · have hp := (grow_pre (key := key) (next (line.getD t 0)) line).length_le
      have ih := bfs_succ f (t + 1) (grow key line (next (line.getD t 0))) (by omega)
      have e1 : bfs key next (f + 1) t line = bfs key next f (t + 1) (grow key line (next (line.getD t 0))) := by rw [bfs, if_pos hl]
      have e2 : bfs key next (f + 1 + 1) t line = bfs key next (f + 1) (t + 1) (grow key line (next (line.getD t 0))) := by
        show (if t < line.length then bfs key next (f + 1) (t + 1) _ else line) = _
        rw [if_pos hl]
      rw [e1, e2, ih, show t + (f + 1) = t + 1 + f by omega]
    · rw [bfs_stop _ _ _ (by omega), bfs_stop _ _ _ (by omega), if_neg (by omega)]
theorem idx_pre {l m : List Nat} {g : Nat} (h : l <+: m) (hg : ∃ x ∈ l, key x = key g) : idx key m g = idx key l g := by
  obtain ⟨r, rfl⟩ := h
  obtain ⟨x, hx, e⟩ := hg
  unfold idx
  induction l with
  | nil => cases hx
  | cons y l ih =>
    rw [List.cons_append, List.findIdx_cons, List.findIdx_cons]
    by_cases q : key y = key g
    · simp [q]
    · rcases List.mem_cons.mp hx with rfl | hx
      · exact absurd e q
      · rw [ih hx]
end
end MA
end

section
set_option Elab.async false
set_option linter.all false
set_option maxRecDepth 100000
set_option maxHeartbeats 4000000
/-! DP2: comprehensions over coded lists as plain maps; loops by invariants -/
namespace DL
open PySem PySem.Spec PyProof.Rows L2
/-- each item's value, in order -/
def mapMM {α : Type} (f : α → M D) : List α → M (List D)
  | [] => M.pure []
  | x :: xs => M.bind (calm (f x)) fun y => M.bind (mapMM f xs) fun ys => M.pure (y :: ys)
/-- those items that pass, their values in order -/
def filtMM {α : Type} (t : α → M Bool) (f : α → M D) : List α → M (List D)
  | [] => M.pure []
  | x :: xs => M.bind (calm (t x)) fun c => if c = true then M.bind (calm (f x)) fun y => M.bind (filtMM t f xs) fun ys => M.pure (y :: ys) else filtMM t f xs
section
variable {α β : Type}
theorem mapMM_pure (h : α → D) : ∀ xs : List α, mapMM (fun x => M.pure (h x)) xs = M.pure (xs.map h)
  | [] => rfl
  | x :: xs => by
    rw [mapMM, calm_pure, M.pure_bind, mapMM_pure h xs, M.pure_bind]
    rfl
theorem filtMM_pure (p : α → Bool) (h : α → D) : ∀ xs : List α, filtMM (fun x => M.pure (p x)) (fun x => M.pure (h x)) xs = M.pure ((xs.filter p).map h)
  | [] => rfl
  | x :: xs => by
    rw [filtMM, calm_pure, M.pure_bind, filtMM_pure p h xs]
    cases e : p x with
    | true => rw [if_pos rfl, calm_pure, M.pure_bind, M.pure_bind, List.filter_cons_of_pos e]; rfl
    | false => rw [if_neg (by decide), List.filter_cons_of_neg (by rw [e]; decide)]
theorem mapMM_cong {f g : α → M D} : ∀ {xs : List α}, (∀ x ∈ xs, f x = g x) → mapMM f xs = mapMM g xs
  | [], _ => rfl
  | x :: xs, h => by rw [mapMM, mapMM, h x List.mem_cons_self, mapMM_cong fun y hy => h y (List.mem_cons_of_mem _ hy)]
theorem filtMM_cong {t u : α → M Bool} {f g : α → M D} : ∀ {xs : List α}, (∀ x ∈ xs, t x = u x) → (∀ x ∈ xs, f x = g x) → filtMM t f xs = filtMM u g xs
  | [], _, _ => rfl
  | x :: xs, h, k => by rw [filtMM, filtMM, h x List.mem_cons_self, k x List.mem_cons_self, filtMM_cong (fun y hy => h y (List.mem_cons_of_mem _ hy)) fun y hy => k y (List.mem_cons_of_mem _ hy)]
/-- by what holds of the members -/
theorem mapMM_of {f : α → M D} {h : α → D} {xs : List α} (k : ∀ x ∈ xs, f x = M.pure (h x)) : mapMM f xs = M.pure (xs.map h) := (mapMM_cong k).trans (mapMM_pure h xs)
theorem filtMM_of {t : α → M Bool} {f : α → M D} {p : α → Bool} {h : α → D} {xs : List α} (k : ∀ x ∈ xs, t x = M.pure (p x)) (l : ∀ x ∈ xs, p x = true → f x = M.pure (h x)) : filtMM t f xs = M.pure ((xs.filter p).map h) := by
  induction xs with
  | nil => rfl
  | cons x xs ih =>
    have ih := ih (fun y hy => k y (List.mem_cons_of_mem _ hy)) fun y hy => l y (List.mem_cons_of_mem _ hy)
    rw [filtMM, k x List.mem_cons_self, calm_pure, M.pure_bind]
    cases e : p x with
    | true => rw [if_pos rfl, l x List.mem_cons_self e, calm_pure, M.pure_bind, ih, M.pure_bind, List.filter_cons_of_pos e]; rfl
    | false => rw [if_neg (by decide), ih, List.filter_cons_of_neg (by rw [e]; decide)]
/-! ### from the mirrors -/
theorem compM_nil (g : D → Env → Option Env) (t : Env → M Bool) (f : Env → M D) (ρ : Env) : compM g t f [] ρ = M.pure [] := rfl
theorem compM_one {g : D → Env → Option Env} {e : α → Env} {j : α → D} {f : Env → M D} {ρ : Env} : ∀ {xs : List α}, (∀ x ∈ xs, g (j x) ρ = some (e x)) → compM g bYes f (xs.map j) ρ = mapMM (fun x => f (e x)) xs
  | [], _ => rfl
  | x :: xs, h => by
    have ih := compM_one (f := f) (xs := xs) fun y hy => h y (List.mem_cons_of_mem _ hy)
    rw [List.map_cons, compM, h x List.mem_cons_self, mapMM, ← ih]
    rfl
theorem compM_two {g : D → Env → Option Env} {e : α → Env} {j : α → D} {t : Env → M Bool} {f : Env → M D} {ρ : Env} : ∀ {xs : List α}, (∀ x ∈ xs, g (j x) ρ = some (e x)) → compM g t f (xs.map j) ρ = filtMM (fun x => t (e x)) (fun x => f (e x)) xs
  | [], _ => rfl
  | x :: xs, h => by
    have ih := compM_two (t := t) (f := f) (xs := xs) fun y hy => h y (List.mem_cons_of_mem _ hy)
    rw [List.map_cons, compM, h x List.mem_cons_self, filtMM, ← ih]
theorem comp_n (i : Nat) (f : Env → M D) (j : α → D) (xs : List α) (ρ : Env) : compM (gN i) bYes f (xs.map j) ρ = mapMM (fun x => f (ρ.set i (.d (j x)))) xs := compM_one fun _ _ => rfl
theorem comp_nt (i : Nat) (t : Env → M Bool) (f : Env → M D) (j : α → D) (xs : List α) (ρ : Env) : compM (gN i) t f (xs.map j) ρ = filtMM (fun x => t (ρ.set i (.d (j x)))) (fun x => f (ρ.set i (.d (j x)))) xs := compM_two fun _ _ => rfl
theorem comp_2 (a b : Nat) (f : Env → M D) (u v : α → D) (xs : List α) (ρ : Env) : compM (gT 2 (gsC (gN a) (gsC (gN b) gsN))) bYes f (xs.map fun x => D.tup [u x, v x]) ρ = mapMM (fun x => f ((ρ.set a (.d (u x))).set b (.d (v x)))) xs := compM_one fun _ _ => rfl
theorem comp_2t (a b : Nat) (t : Env → M Bool) (f : Env → M D) (u v : α → D) (xs : List α) (ρ : Env) : compM (gT 2 (gsC (gN a) (gsC (gN b) gsN))) t f (xs.map fun x => D.tup [u x, v x]) ρ = filtMM (fun x => t ((ρ.set a (.d (u x))).set b (.d (v x)))) (fun x => f ((ρ.set a (.d (u x))).set b (.d (v x)))) xs := compM_two fun _ _ => rfl
/-! ### what is walked -/
theorem pairD_map (u : α → D) (v : β → D) (xs : List α) (ys : List β) : pairD (xs.map u) (ys.map v) = (xs.zip ys).map fun p => D.tup [u p.1, v p.2] := by
  unfold pairD
  rw [List.zip_map, List.map_map]
  rfl
theorem numD_eq (n : Nat) : numD n = (List.range n).map fun i : Nat => D.int (i : Int) := rfl
/-- the members, numbered -/
def enumN (xs : List α) : List (Nat × α) := (List.range xs.length).zip xs
theorem pairD_num (j : α → D) (xs : List α) : pairD (numD (xs.map j).length) (xs.map j) = (enumN xs).map fun p => D.tup [.int (p.1 : Nat), j p.2] := by
  rw [numD_eq, List.length_map, pairD_map]
  rfl
theorem rangeD_0 (n : Nat) : rangeD 0 n = (List.range n).map fun i : Nat => D.int (i : Int) := by
  rw [rangeD_eq]
  refine List.map_congr_left fun i _ => ?_
  rw [Int.zero_add]
theorem enumN_mem {xs : List α} {p : Nat × α} (h : p ∈ enumN xs) : xs[p.1]? = some p.2 := by
  obtain ⟨k, hk, e⟩ := List.getElem_of_mem h
  have h1 : (enumN xs)[k]? = some p := by rw [List.getElem?_eq_getElem hk, e]
  unfold enumN at h1
  rw [List.getElem?_zip_eq_some] at h1
  obtain ⟨h1, h2⟩ := h1
  have h3 : p.1 = k := by
    obtain ⟨a, b⟩ := List.getElem?_eq_some_iff.mp h1
    rw [List.getElem_range] at b
    exact b.symm
  rw [h3]
  exact h2
theorem enumN_length (xs : List α) : (enumN xs).length = xs.length := by
  unfold enumN
  rw [List.length_zip, List.length_range, Nat.min_self]
/-! ### items -/
theorem ix_tup (j : α → D) (xs : List α) (i : Nat) : ixD (.tup (xs.map j)) (.int (i : Int)) = xs[i]?.map j := by
  show atI (xs.map j) (i : Int) = _
  rw [atI_map, atI_pos (by omega)]
  rfl
theorem ix_lst (j : α → D) (xs : List α) (i : Nat) : ixD (.lst (xs.map j)) (.int (i : Int)) = xs[i]?.map j := by
  show atI (xs.map j) (i : Int) = _
  rw [atI_map, atI_pos (by omega)]
  rfl
theorem fits_le' {xs : List D} (h : xs.length ≤ sizeLine) : fits xs = true := by simpa [fits] using h
theorem fits_zip {γ : Type} {h : γ → D} {xs : List γ} (k : xs.length ≤ sizeLine) : fits (xs.map h) = true := fits_map k
/-! ### loops by invariants -/
/-- what holds where a block has ended -/
def onO (o : O) (N : Env → Tin → Prop) (Rt : D → Tin → Prop) (Ex : Str → Tin → Prop) : Prop := match o with
  | .nx ρ τ => N ρ τ
  | .rt d τ => Rt d τ
  | .exc e _ τ => Ex e τ
  | _ => False
/-- a loop's body: it goes on, or stops, or returns -/
def onB (o : O) (N B : Env → Tin → Prop) (Rt : D → Tin → Prop) (Ex : Str → Tin → Prop) : Prop := match o with
  | .nx ρ τ => N ρ τ
  | .ct ρ τ => N ρ τ
  | .bk ρ τ => B ρ τ
  | .rt d τ => Rt d τ
  | .exc e _ τ => Ex e τ
  | .no => False
theorem loop_on {g : D → Env → Option Env} {b : G} {I : Nat → Env → Tin → Prop} {N : Env → Tin → Prop} {Rt : D → Tin → Prop} {Ex : Str → Tin → Prop} :
    ∀ (ds : List D) (k : Nat) (ρ : Env) (τ : Tin), I k ρ τ → (∀ i d ρ τ, ds[i]? = some d → I (k + i) ρ τ → ∃ ρ1, g d ρ = some ρ1 ∧ onB (b ρ1 τ) (I (k + i + 1)) N Rt Ex) → (∀ ρ τ, I (k + ds.length) ρ τ → N ρ τ) → onO (loopO g b ds ρ τ) N Rt Ex
  | [], k, ρ, τ, h, _, hn => hn ρ τ h
  | d :: ds, k, ρ, τ, h, hs, hn => by
    obtain ⟨ρ1, h1, h2⟩ := hs 0 d ρ τ rfl h
    have next : ∀ ρ2 τ2, I (k + 0 + 1) ρ2 τ2 → onO (loopO g b ds ρ2 τ2) N Rt Ex := fun ρ2 τ2 h2 => loop_on ds (k + 1) ρ2 τ2 h2 (fun i e ρ τ hi hI => by
      have := hs (i + 1) e ρ τ (by simpa using hi) (by rw [show k + (i + 1) = k + 1 + i by omega]; exact hI)
      rw [show k + (i + 1) + 1 = k + 1 + i + 1 by omega] at this
      exact this) fun ρ τ hI => hn ρ τ (by rw [List.length_cons, show k + (ds.length + 1) = k + 1 + ds.length by omega]; exact hI)
    rw [loopO, h1]
    show onO (turnO (b ρ1 τ) (loopO g b ds)) N Rt Ex
    cases e : b ρ1 τ with
    | nx ρ2 τ2 => rw [e] at h2; exact next ρ2 τ2 h2
    | ct ρ2 τ2 => rw [e] at h2; exact next ρ2 τ2 h2
    | bk ρ2 τ2 => rw [e] at h2; exact h2
    | rt d τ2 => rw [e] at h2; exact h2
    | exc x ρ2 τ2 => rw [e] at h2; exact h2
    | no => rw [e] at h2; exact h2.elim
/-- over a coded list, nothing but going on: to the state that the invariant tells -/
theorem loop_nx {g : D → Env → Option Env} {b : G} {j : α → D} {I : Nat → Env → Tin → Prop} {xs : List α} {ρ : Env} {τ : Tin} (h0 : I 0 ρ τ)
    (hs : ∀ i x ρ τ, xs[i]? = some x → I i ρ τ → ∃ ρ1 ρ2 τ2, g (j x) ρ = some ρ1 ∧ b ρ1 τ = .nx ρ2 τ2 ∧ I (i + 1) ρ2 τ2) : ∃ ρ2 τ2, loopO g b (xs.map j) ρ τ = .nx ρ2 τ2 ∧ I xs.length ρ2 τ2 := by
  have := loop_on (g := g) (b := b) (I := I) (N := fun ρ τ => I xs.length ρ τ) (Rt := fun _ _ => False) (Ex := fun _ _ => False) (xs.map j) 0 ρ τ h0 (fun i d ρ τ hi hI => by
    rw [List.getElem?_map] at hi
    cases e : xs[i]? with
    | none => rw [e] at hi; cases hi
    | some x =>
      rw [e] at hi
      cases hi
      rw [Nat.zero_add] at hI ⊢
      obtain ⟨ρ1, ρ2, τ2, h1, h2, h3⟩ := hs i x ρ τ e hI
      exact ⟨ρ1, h1, by rw [h2]; exact h3⟩) fun ρ τ hI => by
    rw [List.length_map, Nat.zero_add] at hI
    exact hI
  cases e : loopO g b (xs.map j) ρ τ with
  | nx ρ2 τ2 => rw [e] at this; exact ⟨ρ2, τ2, rfl, this⟩
  | ct ρ2 τ2 => rw [e] at this; exact this.elim
  | bk ρ2 τ2 => rw [e] at this; exact this.elim
  | rt d τ2 => rw [e] at this; exact this.elim
  | exc x ρ2 τ2 => rw [e] at this; exact this.elim
  | no => rw [e] at this; exact this.elim
theorem onO_nx {o : O} {N : Env → Tin → Prop} (h : onO o N (fun _ _ => False) fun _ _ => False) : ∃ ρ τ, o = .nx ρ τ ∧ N ρ τ := by
  cases o with
  | nx ρ2 τ2 => exact ⟨ρ2, τ2, rfl, h⟩
  | _ => exact h.elim
theorem while_on {t : Env → M Bool} {b : G} {I : Nat → Env → Tin → Prop} {N : Env → Tin → Prop} {Rt : D → Tin → Prop} {Ex : Str → Tin → Prop} :
    ∀ (n m : Nat) (ρ : Env) (τ : Tin), I m ρ τ → m < n → (∀ m ρ τ, I m ρ τ → ∃ c τ1, t ρ τ = .ok c τ1 ∧ (c = false → N ρ τ1) ∧ (c = true → onB (b ρ τ1) (fun ρ2 τ2 => ∃ m', m' < m ∧ I m' ρ2 τ2) N Rt Ex)) → onO (whileO t b n ρ τ) N Rt Ex
  | 0, m, _, _, _, h, _ => absurd h (Nat.not_lt_zero _)
  | n + 1, m, ρ, τ, h, hm, hs => by
    obtain ⟨c, τ1, h1, h2, h3⟩ := hs m ρ τ h
    rw [whileO, bO_ok h1]
    cases c with
    | false => rw [if_neg (by decide)]; exact h2 rfl
    | true =>
      rw [if_pos rfl]
      have h3 := h3 rfl
      cases e : b ρ τ1 with
      | nx ρ2 τ2 => rw [e] at h3; obtain ⟨m', hm', hI⟩ := h3; exact while_on n m' ρ2 τ2 hI (by omega) hs
      | ct ρ2 τ2 => rw [e] at h3; obtain ⟨m', hm', hI⟩ := h3; exact while_on n m' ρ2 τ2 hI (by omega) hs
      | bk ρ2 τ2 => rw [e] at h3; exact h3
      | rt d τ2 => rw [e] at h3; exact h3
      | exc x ρ2 τ2 => rw [e] at h3; exact h3
      | no => rw [e] at h3; exact h3.elim
end
theorem fComp_of {fi : Env → M (List D)} {own : List Nat} {g : D → Env → Option Env} {t : Env → M Bool} {f : Env → M D} {ρ : Env} {ds es : List D} (hi : fi ρ = M.pure ds) (hf : ds.length ≤ sizeLine) (hc : compM g t f ds (wipeS ρ own) = M.pure es) : fComp fi own g t f ρ = M.pure es := by
  unfold fComp
  rw [hi, M.pure_bind, if_pos (fits_le' hf), hc]
/-! ### lists and tuples alike -/
/-- a tuple (true), a list (false) -/
def sq : Bool → List D → D
  | true, xs => .tup xs
  | false, xs => .lst xs
abbrev ni (n : Nat) : D := .int (n : Int)
abbrev ns (b : Bool) (xs : List Nat) : D := sq b (xs.map ni)
abbrev nss (b c : Bool) (rows : List (List Nat)) : D := sq b (rows.map (ns c))
theorem items_tup (xs : List D) : itemsD (.tup xs) = some xs := rfl
theorem items_lst (xs : List D) : itemsD (.lst xs) = some xs := rfl
theorem items_sq (b : Bool) (xs : List D) : itemsD (sq b xs) = some xs := by cases b <;> rfl
theorem len_sq (b : Bool) (xs : List D) : lenD [sq b xs] = some (.int (xs.length : Nat)) := by cases b <;> rfl
theorem ix_sq {α : Type} (b : Bool) (j : α → D) (xs : List α) (i : Nat) : ixD (sq b (xs.map j)) (.int (i : Int)) = xs[i]?.map j := by
  cases b
  · exact ix_lst j xs i
  · exact ix_tup j xs i
theorem ix_sq0 (b : Bool) (x : D) (xs : List D) : ixD (sq b (x :: xs)) (.int 0) = some x := by
  have := ix_sq b id (x :: xs) 0
  simpa using this
theorem ix_sq1 (b : Bool) (x y : D) (xs : List D) : ixD (sq b (x :: y :: xs)) (.int 1) = some y := by
  have := ix_sq b id (x :: y :: xs) 1
  simpa using this
theorem sl_sq {α : Type} (b : Bool) (lo hi : Option Int) (j : α → D) (xs : List α) : slD lo hi (sq b (xs.map j)) = some (sq b ((cutL xs lo hi).map j)) := by
  cases b
  · show some (D.lst (cutL (xs.map j) lo hi)) = _
    rw [cutL_mapF]; rfl
  · show some (D.tup (cutL (xs.map j) lo hi)) = _
    rw [cutL_mapF]; rfl
theorem cod_nat : Cod 0 ni := ⟨fun n => oks_int 0 _, fun a b => by
  rw [cod_int.eq]
  exact decide_eq_decide.mpr (by omega)⟩
theorem in_sq {α : Type} [DecidableEq α] {n : Nat} {f : α → D} (c : Cod n f) (hn : n ≤ 150) (b : Bool) (a : α) (xs : List α) : inD (f a) (sq b (xs.map f)) = some (.bl (decide (a ∈ xs))) := by
  unfold inD inB
  rw [items_sq]
  show (inL (f a) (xs.map f)).map D.bl = _
  rw [c.inL hn]
  rfl
theorem nin_sq {α : Type} [DecidableEq α] {n : Nat} {f : α → D} (c : Cod n f) (hn : n ≤ 150) (b : Bool) (a : α) (xs : List α) : ninD (f a) (sq b (xs.map f)) = some (.bl (!decide (a ∈ xs))) := by
  unfold ninD inB
  rw [items_sq]
  show (inL (f a) (xs.map f)).map (fun b => D.bl (!b)) = _
  rw [c.inL hn]
  rfl
theorem in_ns (b : Bool) (a : Nat) (xs : List Nat) : inD (ni a) (ns b xs) = some (.bl (decide (a ∈ xs))) := in_sq cod_nat (by omega) b a xs
theorem nin_ns (b : Bool) (a : Nat) (xs : List Nat) : ninD (ni a) (ns b xs) = some (.bl (!decide (a ∈ xs))) := nin_sq cod_nat (by omega) b a xs
theorem eqD_ni (a b : Nat) : eqD (ni a) (ni b) = some (.bl (decide (a = b))) := cod_nat.eqD (by omega) a b
theorem neD_ni (a b : Nat) : neD (ni a) (ni b) = some (.bl (!decide (a = b))) := cod_nat.neD (by omega) a b
theorem add_ni (a b : Nat) : addD (ni a) (ni b) = some (ni (a + b)) := by rw [addD_int]; rfl
theorem lt_ni (a b : Nat) : ltD (ni a) (ni b) = some (.bl (decide (a < b))) := by
  rw [ltD_int]
  congr 2
  exact decide_eq_decide.mpr (by omega)
theorem le_ni (a b : Nat) : leD (ni a) (ni b) = some (.bl (decide (a ≤ b))) := by
  rw [leD_int]
  congr 2
  exact decide_eq_decide.mpr (by omega)
theorem sub1_ni {a : Nat} (h : 1 ≤ a) : subD (ni a) (.int 1) = some (ni (a - 1)) := by
  rw [subD_int]
  congr 2
  omega
theorem mul_ni (a b : Nat) (h : b ≤ 1000000000) : mulD (ni a) (ni b) = some (ni (a * b)) := by
  rw [mulD_int (.inr (small64_nat h))]
  rfl
theorem tuple_sq (b : Bool) (xs : List D) : tupleD [sq b xs] = some (.tup xs) := by cases b <;> rfl
theorem int_bl (b : Bool) : DL.intD [.bl b] = some (ni (if b = true then 1 else 0)) := by cases b <;> rfl
theorem enum_sq {α : Type} (b : Bool) (fa : Env → M D) (ρ : Env) (j : α → D) (xs : List α) (h : fa ρ = M.pure (sq b (xs.map j))) : DL.iEnum fa ρ = M.pure ((enumN xs).map fun p => D.tup [.int (p.1 : Nat), j p.2]) := by
  unfold DL.iEnum
  rw [h, M.pure_bind, ← pairD_num]
  cases b <;> rfl
/-! ### step by step: loops -/
section
variable {α : Type} {fi : Env → M (List D)} {g : D → Env → Option Env} {b rest : G} {t : Env → M Bool} {j : α → D} {xs : List α} {ρ : Env} {τ : Tin} {o : O}
/-- a loop that runs through -/
theorem st_for (hf : fi ρ = M.pure (xs.map j)) (I : Nat → Env → Tin → Prop) (h0 : I 0 ρ τ) (hs : ∀ i x ρ τ, xs[i]? = some x → I i ρ τ → ∃ ρ1 ρ2 τ2, g (j x) ρ = some ρ1 ∧ b ρ1 τ = .nx ρ2 τ2 ∧ I (i + 1) ρ2 τ2)
    (k : ∀ ρ2 τ2, I xs.length ρ2 τ2 → rest ρ2 τ2 = o) : sSeq (sFor fi g b) rest ρ τ = o := by
  obtain ⟨ρ2, τ2, h1, h2⟩ := loop_nx (g := g) (b := b) h0 hs
  unfold sSeq sFor
  rw [hf, bO_pure, h1]
  exact k ρ2 τ2 h2
theorem for_nx (hf : fi ρ = M.pure (xs.map j)) (I : Nat → Env → Tin → Prop) (h0 : I 0 ρ τ) (hs : ∀ i x ρ τ, xs[i]? = some x → I i ρ τ → ∃ ρ1 ρ2 τ2, g (j x) ρ = some ρ1 ∧ b ρ1 τ = .nx ρ2 τ2 ∧ I (i + 1) ρ2 τ2) : ∃ ρ2 τ2, sFor fi g b ρ τ = .nx ρ2 τ2 ∧ I xs.length ρ2 τ2 := by
  obtain ⟨ρ2, τ2, h1, h2⟩ := loop_nx (g := g) (b := b) h0 hs
  refine ⟨ρ2, τ2, ?_, h2⟩
  unfold sFor
  rw [hf, bO_pure, h1]
/-- a loop by what it may end with -/
theorem for_on (hf : fi ρ = M.pure (xs.map j)) (I : Nat → Env → Tin → Prop) {N : Env → Tin → Prop} {Rt : D → Tin → Prop} {Ex : Str → Tin → Prop} (h0 : I 0 ρ τ)
    (hs : ∀ i x ρ τ, xs[i]? = some x → I i ρ τ → ∃ ρ1, g (j x) ρ = some ρ1 ∧ onB (b ρ1 τ) (I (i + 1)) N Rt Ex) (hn : ∀ ρ τ, I xs.length ρ τ → N ρ τ) : onO (sFor fi g b ρ τ) N Rt Ex := by
  unfold sFor
  rw [hf, bO_pure]
  refine loop_on (I := I) (xs.map j) 0 ρ τ h0 (fun i d ρ τ hi hI => ?_) fun ρ τ h => hn ρ τ (by rw [List.length_map, Nat.zero_add] at h; exact h)
  rw [List.getElem?_map] at hi
  cases e : xs[i]? with
  | none => rw [e] at hi; cases hi
  | some x =>
    rw [e] at hi
    cases hi
    rw [Nat.zero_add] at hI ⊢
    exact hs i x ρ τ e hI
/-- what follows a block by what it may end with -/
theorem on_seq {a : G} {N N' : Env → Tin → Prop} {Rt : D → Tin → Prop} {Ex : Str → Tin → Prop} (h : onO (a ρ τ) N' Rt Ex) (k : ∀ ρ τ, N' ρ τ → onO (rest ρ τ) N Rt Ex) : onO (sSeq a rest ρ τ) N Rt Ex := by
  unfold sSeq seqO
  cases e : a ρ τ with
  | nx ρ2 τ2 => rw [e] at h; exact k ρ2 τ2 h
  | rt d τ2 => rw [e] at h; exact h
  | exc x ρ2 τ2 => rw [e] at h; exact h
  | _ => rw [e] at h; exact h.elim
theorem on_nx {a : G} {N : Env → Tin → Prop} {Rt : D → Tin → Prop} {Ex : Str → Tin → Prop} {ρ2 : Env} {τ2 : Tin} (h : a ρ τ = .nx ρ2 τ2) (k : N ρ2 τ2) : onO (a ρ τ) N Rt Ex := by rw [h]; exact k
/-- a loop with a measure -/
theorem while_nx {n : Nat} (I : Nat → Env → Tin → Prop) {m : Nat} (h0 : I m ρ τ) (hm : m < n) (hs : ∀ m ρ τ, I m ρ τ → (t ρ τ = .ok false τ ∧ m = 0) ∨ (0 < m ∧ t ρ τ = .ok true τ ∧ ∃ ρ2 τ2, b ρ τ = .nx ρ2 τ2 ∧ I (m - 1) ρ2 τ2)) : ∃ ρ2 τ2, sWhile n t b ρ τ = .nx ρ2 τ2 ∧ I 0 ρ2 τ2 := by
  have := while_on (t := t) (b := b) (I := I) (N := I 0) (Rt := fun _ _ => False) (Ex := fun _ _ => False) n m ρ τ h0 hm fun m ρ τ hI => by
    rcases hs m ρ τ hI with ⟨h1, rfl⟩ | ⟨h0, h1, ρ2, τ2, h2, h3⟩
    · exact ⟨false, τ, h1, fun _ => hI, fun e => Bool.noConfusion e⟩
    · exact ⟨true, τ, h1, fun e => Bool.noConfusion e, fun _ => by rw [h2]; exact ⟨m - 1, by omega, h3⟩⟩
  exact onO_nx this
theorem st_on {a : G} {N : Env → Tin → Prop} (h : ∃ ρ2 τ2, a ρ τ = .nx ρ2 τ2 ∧ N ρ2 τ2) (k : ∀ ρ2 τ2, N ρ2 τ2 → rest ρ2 τ2 = o) : sSeq a rest ρ τ = o := by
  obtain ⟨ρ2, τ2, h1, h2⟩ := h
  unfold sSeq
  rw [h1]
  exact k ρ2 τ2 h2
end
/-! ### tests put together -/
theorem ifp_and (c d : Bool) : (if c = true then M.pure d else M.pure false) = M.pure (c && d) := by cases c <;> rfl
theorem ifp_or (c d : Bool) : (if c = true then M.pure true else M.pure d) = M.pure (c || d) := by cases c <;> rfl
theorem ifd_and (c d : Bool) : (if c = true then M.pure (D.bl d) else M.pure (D.bl false)) = M.pure (D.bl (c && d)) := by cases c <;> rfl
theorem ifd_or (c d : Bool) : (if c = true then M.pure (D.bl true) else M.pure (D.bl d)) = M.pure (D.bl (c || d)) := by cases c <;> rfl
theorem ifp_any {α : Type} (c : Bool) (x y : α) : (if c = true then M.pure x else M.pure y) = M.pure (if c = true then x else y) := by cases c <;> rfl
theorem filtMM_yes {α : Type} (e : α → Env) (f : α → M D) : ∀ xs : List α, filtMM (fun x => bYes (e x)) f xs = mapMM f xs
  | [] => rfl
  | x :: xs => by rw [filtMM, mapMM, ← filtMM_yes e f xs]; rfl
theorem oks_str {x : Str} (h : PyData.canLay0 (.str x) = true) : Oks 0 (.str x) := ⟨rfl, h, Nat.zero_le _⟩
theorem eqv_str (a b : Str) : PyData.eqv (.str a) (.str b) = decide (a = b) := by
  rw [PyData.eqv]
  by_cases h : a = b
  · subst h; simp
  · simp [h]
theorem eqD_str {a b : Str} (ha : PyData.canLay0 (.str a) = true) (hb : PyData.canLay0 (.str b) = true) : eqD (.str a) (.str b) = some (.bl (decide (a = b))) := by
  unfold DL.eqD
  rw [eqB_ok ((oks_str ha).mono (by omega)) ((oks_str hb).mono (by omega))]
  show (some (PyData.eqv (.str a) (.str b))).map D.bl = _
  rw [eqv_str]
  rfl
theorem neD_str {a b : Str} (ha : PyData.canLay0 (.str a) = true) (hb : PyData.canLay0 (.str b) = true) : neD (.str a) (.str b) = some (.bl (!decide (a = b))) := by
  unfold DL.neD
  rw [eqB_ok ((oks_str ha).mono (by omega)) ((oks_str hb).mono (by omega))]
  show (some (PyData.eqv (.str a) (.str b))).map (fun b => D.bl (!b)) = _
  rw [eqv_str]
  rfl
theorem cod_bl : Cod 0 D.bl := ⟨oks_bl 0, fun a b => by
  show PyData.eqv (.bool a) (.bool b) = _
  rw [PyData.eqv]
  cases a <;> cases b <;> rfl⟩
theorem eqD_bls (a b : Bool) : eqD (.bl a) (.bl b) = some (.bl (decide (a = b))) := cod_bl.eqD (by omega) a b
theorem neD_bls (a b : Bool) : neD (.bl a) (.bl b) = some (.bl (a != b)) := by
  rw [cod_bl.neD (by omega) a b]
  cases a <;> cases b <;> rfl
theorem zip_sq {α β : Type} (b c : Bool) (fa fb : Env → M D) (ρ : Env) (j : α → D) (k : β → D) (xs : List α) (ys : List β) (h : fa ρ = M.pure (sq b (xs.map j))) (h2 : fb ρ = M.pure (sq c (ys.map k))) : DL.iZipA fa fb ρ = M.pure ((xs.zip ys).map fun p => D.tup [j p.1, k p.2]) := by
  unfold DL.iZipA zipAny
  rw [h, M.pure_bind, h2, M.pure_bind, items_sq, items_sq, ← pairD_map]
  rfl
theorem runG_ex {g : G} {n k : Nat} {ds : List D} {e : Str} (hl : ds.length = n) (h : ∀ τ, ∃ ρ, g (ds.map .d ++ List.replicate (k - n) .un) τ = .exc e ρ τ) : runG g n k ds = M.exc e := by
  funext τ
  obtain ⟨ρ, h⟩ := h τ
  unfold runG
  rw [if_pos hl, h]
  rfl
/-! ### draws -/
theorem tup_at {fl : Env → M (List D)} {ρ : Env} {τ τ' : Tin} {ds : List D} (h : fl ρ τ = .ok ds τ') : dCB tupleD (aCons (dOf fl) aNil) ρ τ = .ok (.tup ds) τ' := by
  show M.bind (M.bind (M.bind (fl ρ) fun xs => M.pure (D.lst xs)) fun x => M.bind (M.pure []) fun xs => M.pure (x :: xs)) (fun xs => M.lift (tupleD xs)) τ = _
  rw [M.bind_assoc, M.bind_assoc, M.bind_ok h]
  rfl
theorem of_at {fl : Env → M (List D)} {ρ : Env} {τ τ' : Tin} {ds : List D} (h : fl ρ τ = .ok ds τ') : dOf fl ρ τ = .ok (.lst ds) τ' := by
  show M.bind (fl ρ) (fun xs => M.pure (D.lst xs)) τ = _
  rw [M.bind_ok h]
  rfl
theorem fComp_at {fi : Env → M (List D)} {own : List Nat} {g : D → Env → Option Env} {t : Env → M Bool} {f : Env → M D} {ρ : Env} {τ τ' : Tin} {ds es : List D} (hi : fi ρ = M.pure ds) (hf : ds.length ≤ sizeLine) (hc : compM g t f ds (wipeS ρ own) τ = .ok es τ') : fComp fi own g t f ρ τ = .ok es τ' := by
  unfold fComp
  rw [hi, M.pure_bind, if_pos (fits_le' hf), hc]
theorem add1_ni (r : Nat) : addD (.int 1) (ni r) = some (ni (r + 1)) := by rw [addD_int]; congr 2; omega
theorem R.ok_bind {α β : Type} {x : M α} {f : α → M β} {τ τ1 : Tin} {a : α} (h : x τ = .ok a τ1) : M.bind x f τ = f a τ1 := M.bind_ok h
end DL
end

section
set_option Elab.async false
set_option linter.all false
set_option maxRecDepth 100000
set_option maxHeartbeats 4000000
/-! DP3: sets of coded keys, sorted; places of items -/
namespace DL
open PySem PySem.Spec PyProof.Rows L2
/-- values of α lie as f says, and are the keys K -/
structure KCod {α : Type} (f : α → D) (K : α → NestedKey) : Prop where
  to : ∀ a, toD (K a) = f a
  inj : ∀ {a b}, K a = K b → a = b
  num : ∀ a, DS.numK (K a) = true
  tup : ∀ a, isTupK (K a) = true
  dp : ∀ a, (K a).depth ≤ 8
  al : ∀ a b, PySem.W.alike (K a).data (K b).data = true
  ne : ∀ a, isNTup (K a).data = true
mutual
theorem depth_data : ∀ k : NestedKey, k.data.depth = k.depth
  | .none => by rw [NestedKey.data, PyData.depth, NestedKey.depth]
  | .num _ => by rw [NestedKey.data, PyData.depth, NestedKey.depth]
  | .text _ => by rw [NestedKey.data, PyData.depth, NestedKey.depth]
  | .tup ks => by rw [NestedKey.data, PyData.depth, NestedKey.depth, depth_datas ks]; try omega
theorem depth_datas : ∀ ks : List NestedKey, PyData.depthAll (NestedKey.datas ks) = NestedKey.depthAll ks
  | [] => by rw [NestedKey.datas, PyData.depthAll, NestedKey.depthAll]
  | k :: ks => by rw [NestedKey.datas, PyData.depthAll, NestedKey.depthAll, depth_data k, depth_datas ks]
end
section
variable {α : Type} [DecidableEq α] {f : α → D} {K : α → NestedKey}
def onceC : List α → List α
  | [] => []
  | x :: xs => if x ∈ onceC xs then onceC xs else x :: onceC xs
theorem mem_onceC {x : α} : ∀ {xs : List α}, x ∈ onceC xs ↔ x ∈ xs
  | [] => Iff.rfl
  | y :: xs => by
    unfold onceC
    split
    · rename_i h
      rw [mem_onceC, List.mem_cons]
      exact ⟨.inr, fun z => z.elim (fun e => e ▸ mem_onceC.mp h) id⟩
    · rw [List.mem_cons, List.mem_cons, mem_onceC]
theorem onceC_nodup : ∀ xs : List α, (onceC xs).Nodup
  | [] => List.nodup_nil
  | y :: xs => by
    unfold onceC
    split
    · exact onceC_nodup xs
    · rename_i h
      exact List.nodup_cons.mpr ⟨h, onceC_nodup xs⟩
theorem onceC_map (c : KCod f K) : ∀ xs : List α, (onceC xs).map K = onceK (xs.map K)
  | [] => rfl
  | x :: xs => by
    have ih := onceC_map c xs
    have e : x ∈ onceC xs ↔ K x ∈ onceK (xs.map K) := by
      rw [← ih, List.mem_map]
      exact ⟨fun h => ⟨x, h, rfl⟩, fun ⟨y, hy, e⟩ => c.inj e ▸ hy⟩
    unfold onceC
    rw [List.map_cons, onceK]
    by_cases h : x ∈ onceC xs
    · rw [if_pos h, if_pos (e.mp h), ih]
    · rw [if_neg h, if_neg (fun z => h (e.mpr z)), List.map_cons, ih]
/-- each once, ascending -/
def sortC (K : α → NestedKey) (xs : List α) : List α := (onceC xs).mergeSort fun a b => leK (K a) (K b)
theorem sortC_map (c : KCod f K) (xs : List α) : (sortC K xs).map K = setK (xs.map K) := by
  unfold sortC setK
  rw [← onceC_map c]
  exact PySem.W.sort_maps K fun _ _ _ _ => rfl
theorem mem_sortC {x : α} {xs : List α} : x ∈ sortC K xs ↔ x ∈ xs := (List.mergeSort_perm _ _).mem_iff.trans mem_onceC
theorem sortC_nodup (xs : List α) : (sortC K xs).Nodup := (List.mergeSort_perm _ _).nodup_iff.mpr (onceC_nodup xs)
theorem kDs_map (c : KCod f K) : ∀ xs : List α, kDs (xs.map f) = some (xs.map K)
  | [] => rfl
  | x :: xs => by rw [List.map_cons, kDs, ← c.to, kD_toD (c.num x), kDs_map c xs]; rfl
theorem okSet_map (c : KCod f K) {xs : List α} (h : (onceC xs).length < 64) : okSet (xs.map K) = true := by
  have h3 : decide ((onceK (xs.map K)).length < 64) = true := by
    rw [← onceC_map c, List.length_map]
    simpa using h
  have h2 : ((xs.map K).all fun k => isTupK k && decide (k.depth ≤ 8)) = true := by
    rw [List.all_eq_true]
    intro k hk
    obtain ⟨a, _, rfl⟩ := List.mem_map.mp hk
    rw [c.tup a, decide_eq_true (c.dp a)]
    rfl
  have dd : ∀ k : NestedKey, k.data.depth = k.depth := fun k => depth_data k
  have h1 : okSort ((xs.map K).map NestedKey.data) = true := by
    unfold okSort allAlike
    simp only [Bool.and_eq_true, Bool.or_eq_true, List.all_eq_true, decide_eq_true_eq]
    refine ⟨⟨fun p hp q hq => ?_, .inl fun p hp => ?_⟩, fun p hp => ?_⟩
    · obtain ⟨k, hk, rfl⟩ := List.mem_map.mp hp
      obtain ⟨a, _, rfl⟩ := List.mem_map.mp hk
      obtain ⟨l, hl, rfl⟩ := List.mem_map.mp hq
      obtain ⟨b, _, rfl⟩ := List.mem_map.mp hl
      exact c.al a b
    · obtain ⟨k, hk, rfl⟩ := List.mem_map.mp hp
      obtain ⟨a, _, rfl⟩ := List.mem_map.mp hk
      exact c.ne a
    · obtain ⟨k, hk, rfl⟩ := List.mem_map.mp hp
      obtain ⟨a, _, rfl⟩ := List.mem_map.mp hk
      have := c.dp a
      rw [dd]
      unfold deepest
      omega
  unfold okSet
  rw [h1, h2, h3]
  rfl
theorem sortSet_cod (c : KCod f K) {xs : List α} (h : (onceC xs).length < 64) : sortSetL (xs.map f) = M.pure ((sortC K xs).map f) := by
  unfold sortSetL
  rw [kDs_map c]
  show (if okSet (xs.map K) = true then M.pure (toDs (setK (xs.map K))) else M.no) = _
  rw [if_pos (okSet_map c h), toDs_map, ← sortC_map c, List.map_map]
  congr 1
  exact List.map_congr_left fun a _ => c.to a
theorem fSortSet_cod (c : KCod f K) {fa : Env → M D} {ρ : Env} {b : Bool} {xs : List α} (hf : fa ρ = M.pure (sq b (xs.map f))) (h : (onceC xs).length < 64) : fSortSet fa ρ = M.pure ((sortC K xs).map f) := by
  unfold fSortSet
  rw [hf, M.pure_bind, items_sq, M.lift_some, M.pure_bind, sortSet_cod c h]
end
section
variable {α : Type} [DecidableEq α] {n : Nat} {f : α → D}
theorem idx_cod (c : Cod n f) (hn : n ≤ 63) (xs : List α) (a : α) : idxD (xs.map f) (f a) = (xs.findIdx? fun z => decide (z = a)).map ni := by
  have hk : ∀ x ∈ xs.map f, Oks n x := c.oks xs
  obtain ⟨b1, b2, b3⟩ := oksAll hk
  unfold idxD
  rw [b1, (c.ok a).1]
  have hs : (SeqAt.shaped (.list ((xs.map f).map pD)) && SeqAt.shaped (pD (f a))) = true := by
    unfold SeqAt.shaped
    have h1 := (c.ok a).2.2
    rw [(c.ok a).2.1, PyData.canLay0, b2, PyData.depth]
    simp only [Bool.true_and, Bool.and_eq_true, decide_eq_true_eq]
    omega
  show (if (SeqAt.shaped (.list ((xs.map f).map pD)) && SeqAt.shaped (pD (f a))) = true then (((xs.map f).map pD).findIdx? fun z => PyData.eqv z (pD (f a))).map fun j => D.int (j : Nat) else none) = _
  rw [if_pos hs, List.map_map, List.findIdx?_map]
  congr 2
  funext z
  exact c.eq z a
theorem dIndex_cod (c : Cod n f) (hn : n ≤ 63) {fo fa : Env → M D} {ρ : Env} {xs : List α} {a : α} {i : Nat} (ho : fo ρ = M.pure (.lst (xs.map f))) (ha : fa ρ = M.pure (f a)) (hi : xs.findIdx? (fun z => decide (z = a)) = some i) : dIndex fo fa ρ = M.pure (ni i) := by
  unfold dIndex
  rw [ho, M.pure_bind]
  show M.bind (fa ρ) (fun x => M.lift (idxD (xs.map f) x)) = _
  rw [ha, M.pure_bind, idx_cod c hn, hi]
  rfl
theorem findIdx?_mem {xs : List α} {a : α} (h : a ∈ xs) : xs.findIdx? (fun z => decide (z = a)) = some (xs.findIdx fun z => decide (z = a)) := by
  induction xs with
  | nil => cases h
  | cons x xs ih =>
    rw [List.findIdx?_cons, List.findIdx_cons]
    by_cases e : x = a
    · simp [e]
    · have := ih ((List.mem_cons.mp h).resolve_left fun z => e z.symm)
      simp only [decide_eq_false e, Bool.false_eq_true, if_false, cond_false, this]
      rfl
end
end DL
end

section
set_option Elab.async false
set_option linter.all false
set_option maxRecDepth 100000
set_option maxHeartbeats 4000000
/-! DP4: expressions that draw -/
namespace DL
open PySem PySem.Spec PyProof.Rows L2
section
variable {fa fb : Env → M D} {fs : Env → M (List D)} {ρ : Env} {τ τ1 τ2 : Tin} {x y r : D} {xs : List D}
theorem aCons_at (ha : fa ρ τ = .ok x τ1) (hs : fs ρ τ1 = .ok xs τ2) : aCons fa fs ρ τ = .ok (x :: xs) τ2 := by
  unfold aCons
  rw [M.bind_ok ha, M.bind_ok hs]
  rfl
theorem aNil_at : aNil ρ τ = .ok [] τ := rfl
theorem dTup_at (h : fs ρ τ = .ok xs τ1) (hf : xs.length ≤ sizeLine) : dTup fs ρ τ = .ok (.tup xs) τ1 := by
  unfold dTup
  rw [M.bind_ok h, if_pos (fits_le' hf)]
  rfl
theorem fLst_at (h : fs ρ τ = .ok xs τ1) (hf : xs.length ≤ sizeLine) : fLst fs ρ τ = .ok xs τ1 := by
  unfold fLst
  rw [M.bind_ok h, if_pos (fits_le' hf)]
  rfl
theorem dOp_at {g : D → D → Option D} (ha : fa ρ τ = .ok x τ1) (hb : fb ρ τ1 = .ok y τ2) (hg : g x y = some r) : dOp g fa fb ρ τ = .ok r τ2 := by
  unfold dOp
  rw [M.bind_ok ha, M.bind_ok hb, hg]
  rfl
theorem dB_at {b : Bool} (ha : fa ρ τ = .ok (.bl b) τ1) : dB fa ρ τ = .ok b τ1 := by
  unfold dB
  rw [M.bind_ok ha]
  rfl
theorem dCall_at {n : Nat} {f : List D → M D} (hs : fs ρ τ = .ok xs τ1) (hl : xs.length = n) (h : f xs τ1 = .ok r τ2) : dCall n f fs ρ τ = .ok r τ2 := by
  unfold dCall
  rw [M.bind_ok hs, if_pos hl, h]
theorem pure_at {f : Env → M D} (h : f ρ = M.pure x) : f ρ τ = .ok x τ := by rw [h]; rfl
theorem two_size {a b : D} : [a, b].length ≤ sizeLine := by show 2 ≤ sizeLine; decide
theorem st_ifE {t : Env → M Bool} {g h rest : G} {c : Bool} {o : O} (ht : t ρ τ = .ok c τ1) (k : seqO (if c = true then g ρ τ1 else h ρ τ1) rest = o) : sSeq (sIf t g h) rest ρ τ = o := by
  unfold sSeq sIf
  rw [bO_ok ht]
  exact k
theorem ret_at {f : Env → M D} (h : f ρ τ = .ok x τ1) : sRet f ρ τ = .rt x τ1 := by
  unfold sRet
  rw [bO_ok h]
end
end DL
end

section
set_option Elab.async false
set_option linter.all false
set_option maxRecDepth 100000
set_option maxHeartbeats 4000000
/-! DP5: a law's body, statement by statement: it ends with True -/
namespace DL
open PySem PySem.Spec PyProof.Rows L2
/-- it returns True -/
def EndT (o : O) : Prop := ∃ τ, o = .rt (.bl true) τ
section
variable {α : Type} {i : Nat} {is : List Nat} {f : Env → M D} {fl : Env → M (List D)} {fs : Env → M (List S)} {t : Env → M Bool} {g h rest : G} {tg : D → Env → Option Env} {ρ ρ1 : Env} {τ τ' : Tin} {d : D} {ds : List D} {ss : List S} {j : α → D} {xs : List α} {fi : Env → M (List D)} {b : G}
theorem et_set (hf : f ρ τ = .ok d τ') (k : EndT (rest (ρ.set i (.d d)) τ')) : EndT (sSeq (sSet i f) rest ρ τ) := by
  obtain ⟨τ1, e⟩ := k
  exact ⟨τ1, st_setE hf e⟩
theorem et_setF (hf : fl ρ τ = .ok ds τ') (k : EndT (rest (ρ.set i (.d (.lst ds))) τ')) : EndT (sSeq (sSetF i fl) rest ρ τ) := by
  obtain ⟨τ1, e⟩ := k
  refine ⟨τ1, ?_⟩
  unfold sSeq sSetF
  rw [bO_ok hf]
  exact e
theorem et_own (hf : fl ρ τ = .ok ds τ') (k : EndT (rest (ρ.set i (.own ds)) τ')) : EndT (sSeq (sOwn i fl) rest ρ τ) := by
  obtain ⟨τ1, e⟩ := k
  refine ⟨τ1, ?_⟩
  unfold sSeq sOwn
  rw [bO_ok hf]
  exact e
theorem et_asg (hf : f ρ τ = .ok d τ') (hg : tg d ρ = some ρ1) (k : EndT (rest ρ1 τ')) : EndT (sSeq (sAsg f tg) rest ρ τ) := by
  obtain ⟨τ1, e⟩ := k
  refine ⟨τ1, ?_⟩
  unfold sSeq sAsg
  rw [bO_ok hf, hg]
  exact e
theorem et_many (hf : fs ρ τ = .ok ss τ') (hl : is.length = ss.length) (k : EndT (rest (setS ρ is ss) τ')) : EndT (sSeq (sMany is fs) rest ρ τ) := by
  obtain ⟨τ1, e⟩ := k
  exact ⟨τ1, st_manyE hf hl e⟩
theorem et_do (hg : g ρ τ = .nx ρ1 τ') (k : EndT (rest ρ1 τ')) : EndT (sSeq g rest ρ τ) := by
  obtain ⟨τ1, e⟩ := k
  exact ⟨τ1, st_do hg e⟩
theorem et_ifn (ht : t ρ τ = .ok false τ') (k : EndT (rest ρ τ')) : EndT (sSeq (sIf t g sNil) rest ρ τ) := by
  obtain ⟨τ1, e⟩ := k
  exact ⟨τ1, st_ifE ht (by rw [if_neg (by decide)]; exact e)⟩
theorem et_for (hf : fi ρ = M.pure (xs.map j)) (I : Nat → Env → Tin → Prop) (h0 : I 0 ρ τ) (hs : ∀ i x ρ τ, xs[i]? = some x → I i ρ τ → ∃ ρ1 ρ2 τ2, tg (j x) ρ = some ρ1 ∧ b ρ1 τ = .nx ρ2 τ2 ∧ I (i + 1) ρ2 τ2)
    (k : ∀ ρ2 τ2, I xs.length ρ2 τ2 → EndT (rest ρ2 τ2)) : EndT (sSeq (sFor fi tg b) rest ρ τ) := by
  obtain ⟨ρ2, τ2, e, h2⟩ := for_nx (g := tg) (b := b) hf I h0 hs
  obtain ⟨τ1, e1⟩ := k ρ2 τ2 h2
  exact ⟨τ1, st_do e e1⟩
theorem et_ret (hf : f ρ τ = .ok (.bl true) τ') : EndT (sRet f ρ τ) := ⟨τ', ret_at hf⟩
theorem et_on {N : Env → Tin → Prop} (h : ∃ ρ2 τ2, g ρ τ = .nx ρ2 τ2 ∧ N ρ2 τ2) (k : ∀ ρ2 τ2, N ρ2 τ2 → EndT (rest ρ2 τ2)) : EndT (sSeq g rest ρ τ) := by
  obtain ⟨ρ2, τ2, h1, h2⟩ := h
  exact et_do h1 (k ρ2 τ2 h2)
end
end DL
end

section
set_option Elab.async false
set_option linter.all false
set_option maxRecDepth 100000
set_option maxHeartbeats 4000000
open PySem PySem.Spec PyProof.Rows L2 DL
namespace K41
def topS (i : Nat) : Stmt := PySem.Challenge.pw_jumpfingers_k41_whole_machines_alike_lea.main.body.getD i (.Pass ⟨0,0,0,0⟩)
def fuel : Nat := 100000
def c_MOST_WIDE : D := .int 3
variable {P : Program} {w : World} {K : PySem.W.Frag} {mg : Str → Option Value} {base : Heap}
/-! ### is_number -/
abbrev s_is_number : Stmt := topS 4
abbrev N_is_number : List Str := ["thing"]
theorem sc_is_number : FnScope N_is_number ["thing"] (defScope s_is_number) := ⟨rfl, rfl, rfl, by decide +kernel, rfl, by decide +kernel, by decide +kernel⟩
def b_is_number : G := (sRet (dAnd (dIsi .int (dVar 0)) (dNot (dIsi .bl (dVar 0)))))
def m_is_number : List D → M D := runG b_is_number 1 1
theorem ok_is_number {f : Addr} {fd : FuncData} (F : Fun K "is_number" "is_number" s_is_number f fd) (hx : mg "is_number" = some (.ref f)) (hb : Binds K fd ["thing"] []) (h_isinstance : mg "isinstance" = none) (h_bool : mg "bool" = none) (h_int : mg "int" = none) : Fn P w K mg base "is_number" 1 1 m_is_number :=
  fn_mk (N := N_is_number) F sc_is_number hx hb rfl fun cdv A outer s H E hr =>
    have nd := sc_is_number.nd; have hu : (A.deeper _).units + 200 < cLine := hu200 hr; have tk := tkB P w K mg base N_is_number "is_number" (defScope s_is_number) f cdv A outer s H E; have hp := hpB P w K mg base N_is_number "is_number" (defScope s_is_number) f cdv A outer s H E
    (dss_one (ds_ret (de_and (de_isi .int rfl h_isinstance (de_var 0) (pe_bltn (v := .ty "int") rfl h_int (by decide +kernel) rfl)) (de_one (de_not (de_isi .bl rfl h_isinstance (de_var 0) (pe_bltn (v := .ty "bool") rfl h_bool (by decide +kernel) rfl)))))))
/-! ### is_tuple_of -/
abbrev s_is_tuple_of : Stmt := topS 5
abbrev N_is_tuple_of : List Str := ["thing", "many"]
theorem sc_is_tuple_of : FnScope N_is_tuple_of ["thing", "many"] (defScope s_is_tuple_of) := ⟨rfl, rfl, rfl, by decide +kernel, rfl, by decide +kernel, by decide +kernel⟩
def b_is_tuple_of : G := (sRet (dAnd (dIsi .tup (dVar 0)) (dOp eqD (dCB lenD (aCons (dVar 0) aNil)) (dVar 1))))
def m_is_tuple_of : List D → M D := runG b_is_tuple_of 2 2
theorem ok_is_tuple_of {f : Addr} {fd : FuncData} (F : Fun K "is_tuple_of" "is_tuple_of" s_is_tuple_of f fd) (hx : mg "is_tuple_of" = some (.ref f)) (hb : Binds K fd ["thing", "many"] []) (h_len : mg "len" = none) (h_isinstance : mg "isinstance" = none) (h_tuple : mg "tuple" = none) : Fn P w K mg base "is_tuple_of" 1 2 m_is_tuple_of :=
  fn_mk (N := N_is_tuple_of) F sc_is_tuple_of hx hb rfl fun cdv A outer s H E hr =>
    have nd := sc_is_tuple_of.nd; have hu : (A.deeper _).units + 200 < cLine := hu200 hr; have tk := tkB P w K mg base N_is_tuple_of "is_tuple_of" (defScope s_is_tuple_of) f cdv A outer s H E; have hp := hpB P w K mg base N_is_tuple_of "is_tuple_of" (defScope s_is_tuple_of) f cdv A outer s H E
    (dss_one (ds_ret (de_and (de_isi .tup rfl h_isinstance (de_var 0) (pe_bltn (v := .ty "tuple") rfl h_tuple (by decide +kernel) rfl)) (de_one (de_cmp (op_eqQ hu) (de_callB cr_lenQ rfl h_len (by decide +kernel) (da_cons (de_var 0) da_nil)) (de_var 1) (nomark _))))))
/-! ### is_state -/
abbrev s_is_state : Stmt := topS 8
abbrev N_is_state : List Str := ["thing", "many"]
theorem sc_is_state : FnScope N_is_state ["thing", "many"] (defScope s_is_state) := ⟨rfl, rfl, rfl, by decide +kernel, rfl, by decide +kernel, by decide +kernel⟩
def b_is_state : G := (sRet (dAnd (dCall 1 (m_is_number) (aCons (dVar 0) aNil)) (dChain leD ltD (dC (.int 0)) (dVar 0) (dVar 1))))
def m_is_state : List D → M D := runG b_is_state 2 2
theorem ok_is_state {f : Addr} {fd : FuncData} (F : Fun K "is_state" "is_state" s_is_state f fd) (hx : mg "is_state" = some (.ref f)) (hb : Binds K fd ["thing", "many"] []) (F_is_number : Fn P w K mg base "is_number" 1 1 m_is_number) : Fn P w K mg base "is_state" 2 2 m_is_state :=
  fn_mk (N := N_is_state) F sc_is_state hx hb rfl fun cdv A outer s H E hr =>
    have nd := sc_is_state.nd; have hu : (A.deeper _).units + 200 < cLine := hu200 hr; have tk := tkB P w K mg base N_is_state "is_state" (defScope s_is_state) f cdv A outer s H E; have hp := hpB P w K mg base N_is_state "is_state" (defScope s_is_state) f cdv A outer s H E
    (dss_one (ds_ret (de_and (de_call F_is_number (hr.mono (by first | decide | exact Nat.le_refl _ | omega)) rfl tk (da_cons (de_var 0) da_nil)) (de_one (de_chain op_leQ op_ltQ (de_int) (de_var 0) (de_var 1))))))
/-! ### is_machine -/
abbrev s_is_machine : Stmt := topS 9
abbrev N_is_machine : List Str := ["thing", "steps", "ends", "row", "own", "near", "far"]
theorem sc_is_machine : FnScope N_is_machine ["thing"] (defScope s_is_machine) := ⟨rfl, rfl, rfl, by decide +kernel, rfl, by decide +kernel, by decide +kernel⟩
def b_is_machine : G := (sSeq (sIf (bOr (bNot (dB (dCall 2 (m_is_tuple_of) (aCons (dVar 0) (aCons (dC (.int 2)) aNil))))) (bOr (bNot (dB (dCB allD (aCons (dOf (fComp (iSeq (dVar 0)) [4] (gN 4) bYes (dIsi .tup (dVar 4)))) aNil)))) (dB (dOp eqD (dOp ixD (dVar 0) (dC (.int 0))) (dTup aNil))))) (sRet (dC (.bl false))) sNil)
    (sSeq (sAsg (dVar 0) (gT 2 (gsC (gN 1) (gsC (gN 2) gsN))))
    (sSeq (sIf (bOr (bNot (dB (dCB allD (aCons (dOf (fComp (iSeq (dVar 1)) [3] (gN 3) bYes (dIsi .tup (dVar 3)))) aNil)))) (bNot (dB (dChain leD leD (dC (.int 1)) (dCB lenD (aCons (dOp ixD (dVar 1) (dC (.int 0))) aNil)) (dC c_MOST_WIDE))))) (sRet (dC (.bl false))) sNil)
    (sSeq (sIf (bNot (dB (dCB allD (aCons (dOf (fComp (iSeq (dVar 1)) [3] (gN 3) bYes (dAnd (dOp eqD (dCB lenD (aCons (dVar 3) aNil)) (dCB lenD (aCons (dOp ixD (dVar 1) (dC (.int 0))) aNil))) (dCB allD (aCons (dOf (fComp (iSeq (dVar 3)) [4] (gN 4) bYes (dCall 2 (m_is_state) (aCons (dVar 4) (aCons (dCB lenD (aCons (dVar 1) aNil)) aNil))))) aNil))))) aNil)))) (sRet (dC (.bl false))) sNil)
    (sRet (dAnd (dCB allD (aCons (dOf (fComp (iSeq (dVar 2)) [4] (gN 4) bYes (dCall 2 (m_is_state) (aCons (dVar 4) (aCons (dCB lenD (aCons (dVar 1) aNil)) aNil))))) aNil)) (dCB allD (aCons (dOf (fComp (DL.iZipA (dVar 2) (dSlice (dVar 2) (pSome (dC (.int 1))) pNone)) [5, 6] (gT 2 (gsC (gN 5) (gsC (gN 6) gsN))) bYes (dOp ltD (dVar 5) (dVar 6)))) aNil))))))))
def m_is_machine : List D → M D := runG b_is_machine 1 7
theorem ok_is_machine {f : Addr} {fd : FuncData} (F : Fun K "is_machine" "is_machine" s_is_machine f fd) (hx : mg "is_machine" = some (.ref f)) (hb : Binds K fd ["thing"] []) (h_all : mg "all" = none) (h_zip : mg "zip" = none) (h_len : mg "len" = none) (h_isinstance : mg "isinstance" = none) (h_tuple : mg "tuple" = none) (g_MOST_WIDE : GlobIs P w K mg "MOST_WIDE" c_MOST_WIDE) (F_is_state : Fn P w K mg base "is_state" 2 2 m_is_state) (F_is_tuple_of : Fn P w K mg base "is_tuple_of" 1 2 m_is_tuple_of) : Fn P w K mg base "is_machine" 3 1 m_is_machine :=
  fn_mk (N := N_is_machine) F sc_is_machine hx hb rfl fun cdv A outer s H E hr =>
    have nd := sc_is_machine.nd; have hu : (A.deeper _).units + 200 < cLine := hu200 hr; have tk := tkB P w K mg base N_is_machine "is_machine" (defScope s_is_machine) f cdv A outer s H E; have hp := hpB P w K mg base N_is_machine "is_machine" (defScope s_is_machine) f cdv A outer s H E
    (dss_cons (ds_if (PW.pt (dw_or (dt_not (dt_val (de_call F_is_tuple_of (hr.mono (by first | decide | exact Nat.le_refl _ | omega)) rfl tk (da_cons (de_var 0) (da_cons (de_int) da_nil))))) (dw_or (dt_not (dt_val (de_callB (cr_allQ rfl) rfl h_all (by decide +kernel) (da_cons (de_fresh (df_comp (own := [("own", 4)]) rfl nd (di_seq (de_var 0)) (blkOk_by (N := N_is_machine) (sc := (defScope s_is_machine)) (by decide +kernel)) (by decide) (fun _ _ _ _ _ => (dg_name 4 nd)) (fun _ _ _ _ _ => have tk : ∀ {X : Cx}, Takes X noX := takes0; dts_nil) (fun _ _ _ _ _ => have tk : ∀ {X : Cx}, Takes X noX := takes0; (de_isi .tup rfl h_isinstance (de_var 4) (pe_bltn (v := .ty "tuple") rfl h_tuple (by decide +kernel) rfl))))) da_nil)))) (dw_or1 (dt_cmp (op_eqQ hu) (de_ix (de_var 0) (de_int)) (de_tup da_nil) (nomark _)))))) (dss_one (ds_ret (de_bl))) dss_nil)
    (dss_cons (ds_asg (de_var 0) (dg_tup rfl (dgs_cons (dg_name 1 nd) (dgs_cons (dg_name 2 nd) dgs_nil))))
    (dss_cons (ds_if (PW.pt (dw_or (dt_not (dt_val (de_callB (cr_allQ rfl) rfl h_all (by decide +kernel) (da_cons (de_fresh (df_comp (own := [("row", 3)]) rfl nd (di_seq (de_var 1)) (blkOk_by (N := N_is_machine) (sc := (defScope s_is_machine)) (by decide +kernel)) (by decide) (fun _ _ _ _ _ => (dg_name 3 nd)) (fun _ _ _ _ _ => have tk : ∀ {X : Cx}, Takes X noX := takes0; dts_nil) (fun _ _ _ _ _ => have tk : ∀ {X : Cx}, Takes X noX := takes0; (de_isi .tup rfl h_isinstance (de_var 3) (pe_bltn (v := .ty "tuple") rfl h_tuple (by decide +kernel) rfl))))) da_nil)))) (dw_or1 (dt_not (dt_chain op_leQ op_leQ (de_int) (de_callB cr_lenQ rfl h_len (by decide +kernel) (da_cons (de_ix (de_var 1) (de_int)) da_nil)) (de_globC g_MOST_WIDE rfl)))))) (dss_one (ds_ret (de_bl))) dss_nil)
    (dss_cons (ds_if (dt_not (dt_val (de_callB (cr_allQ rfl) rfl h_all (by decide +kernel) (da_cons (de_fresh (df_comp (own := [("row", 3)]) rfl nd (di_seq (de_var 1)) (blkOk_by (N := N_is_machine) (sc := (defScope s_is_machine)) (by decide +kernel)) (by decide) (fun _ _ _ _ _ => (dg_name 3 nd)) (fun _ _ _ _ _ => have tk : ∀ {X : Cx}, Takes X noX := takes0; dts_nil) (fun _ _ _ _ _ => have tk : ∀ {X : Cx}, Takes X noX := takes0; (de_and (de_cmp (op_eqQ hu) (de_callB cr_lenQ rfl h_len (by decide +kernel) (da_cons (de_var 3) da_nil)) (de_callB cr_lenQ rfl h_len (by decide +kernel) (da_cons (de_ix (de_var 1) (de_int)) da_nil)) (nomark _)) (de_one (de_callB (cr_allQ rfl) rfl h_all (by decide +kernel) (da_cons (de_fresh (df_comp (own := [("own", 4)]) rfl nd (di_seq (de_var 3)) (blkOk_by (N := N_is_machine) (sc := (relS { kind := PySem.ScopeKind.function, names := [(PySem.Str.ofString ".0", PySem.NameKind.local), (PySem.Str.ofString "row", PySem.NameKind.local), (PySem.Str.ofString "len", PySem.NameKind.globalImplicit), (PySem.Str.ofString "all", PySem.NameKind.globalImplicit), (PySem.Str.ofString "steps", PySem.NameKind.free)], isGenerator := false, isCoroutine := false, more := [] : PySem.Scope } (defScope s_is_machine))) (by decide +kernel)) (by decide) (fun _ _ _ _ _ => (dg_name 4 nd)) (fun _ _ _ _ _ => have tk : ∀ {X : Cx}, Takes X noX := takes0; dts_nil) (fun _ _ _ _ _ => have tk : ∀ {X : Cx}, Takes X noX := takes0; (de_call F_is_state (hr.mono (by first | decide | exact Nat.le_refl _ | omega)) rfl tk (da_cons (de_var 4) (da_cons (de_callB cr_lenQ rfl h_len (by decide +kernel) (da_cons (de_var 1) da_nil)) da_nil)))))) da_nil))))))) da_nil)))) (dss_one (ds_ret (de_bl))) dss_nil)
    (dss_one (ds_ret (de_and (de_callB (cr_allQ rfl) rfl h_all (by decide +kernel) (da_cons (de_fresh (df_comp (own := [("own", 4)]) rfl nd (di_seq (de_var 2)) (blkOk_by (N := N_is_machine) (sc := (defScope s_is_machine)) (by decide +kernel)) (by decide) (fun _ _ _ _ _ => (dg_name 4 nd)) (fun _ _ _ _ _ => have tk : ∀ {X : Cx}, Takes X noX := takes0; dts_nil) (fun _ _ _ _ _ => have tk : ∀ {X : Cx}, Takes X noX := takes0; (de_call F_is_state (hr.mono (by first | decide | exact Nat.le_refl _ | omega)) rfl tk (da_cons (de_var 4) (da_cons (de_callB cr_lenQ rfl h_len (by decide +kernel) (da_cons (de_var 1) da_nil)) da_nil)))))) da_nil)) (de_one (de_callB (cr_allQ rfl) rfl h_all (by decide +kernel) (da_cons (de_fresh (df_comp (own := [("near", 5), ("far", 6)]) rfl nd (di_zipA rfl h_zip (de_var 2) (de_slice (de_var 2) (dp_some (de_int)) dp_none)) (blkOk_by (N := N_is_machine) (sc := (defScope s_is_machine)) (by decide +kernel)) (by decide) (fun _ _ _ _ _ => (dg_tup rfl (dgs_cons (dg_name 5 nd) (dgs_cons (dg_name 6 nd) dgs_nil)))) (fun _ _ _ _ _ => have tk : ∀ {X : Cx}, Takes X noX := takes0; dts_nil) (fun _ _ _ _ _ => have tk : ∀ {X : Cx}, Takes X noX := takes0; (de_cmp op_ltQ (de_var 5) (de_var 6) (nomark _))))) da_nil))))))))))
/-! ### wide_of -/
abbrev s_wide_of : Stmt := topS 10
abbrev N_wide_of : List Str := ["machine"]
theorem sc_wide_of : FnScope N_wide_of ["machine"] (defScope s_wide_of) := ⟨rfl, rfl, rfl, by decide +kernel, rfl, by decide +kernel, by decide +kernel⟩
def b_wide_of : G := (sRet (dCB lenD (aCons (dOp ixD (dOp ixD (dVar 0) (dC (.int 0))) (dC (.int 0))) aNil)))
def m_wide_of : List D → M D := runG b_wide_of 1 1
theorem ok_wide_of {f : Addr} {fd : FuncData} (F : Fun K "wide_of" "wide_of" s_wide_of f fd) (hx : mg "wide_of" = some (.ref f)) (hb : Binds K fd ["machine"] []) (h_len : mg "len" = none) : Fn P w K mg base "wide_of" 1 1 m_wide_of :=
  fn_mk (N := N_wide_of) F sc_wide_of hx hb rfl fun cdv A outer s H E hr =>
    have nd := sc_wide_of.nd; have hu : (A.deeper _).units + 200 < cLine := hu200 hr; have tk := tkB P w K mg base N_wide_of "wide_of" (defScope s_wide_of) f cdv A outer s H E; have hp := hpB P w K mg base N_wide_of "wide_of" (defScope s_wide_of) f cdv A outer s H E
    (dss_one (ds_ret (de_callB cr_lenQ rfl h_len (by decide +kernel) (da_cons (de_ix (de_ix (de_var 0) (de_int)) (de_int)) da_nil))))
/-! ### state_after -/
abbrev s_state_after : Stmt := topS 11
abbrev N_state_after : List Str := ["machine", "text", "state", "letter"]
theorem sc_state_after : FnScope N_state_after ["machine", "text"] (defScope s_state_after) := ⟨rfl, rfl, rfl, by decide +kernel, rfl, by decide +kernel, by decide +kernel⟩
def b_state_after : G := (sSeq (sSet 2 (dC (.int 0)))
    (sSeq (sFor (iSeq (dVar 1)) (gN 3) (sSet 2 (dOp ixD (dOp ixD (dOp ixD (dVar 0) (dC (.int 0))) (dVar 2)) (dOp subD (dVar 3) (dC (.int 1))))))
    (sRet (dVar 2))))
def m_state_after : List D → M D := runG b_state_after 2 4
theorem ok_state_after {f : Addr} {fd : FuncData} (F : Fun K "state_after" "state_after" s_state_after f fd) (hx : mg "state_after" = some (.ref f)) (hb : Binds K fd ["machine", "text"] []) : Fn P w K mg base "state_after" 1 2 m_state_after :=
  fn_mk (N := N_state_after) F sc_state_after hx hb rfl fun cdv A outer s H E hr =>
    have nd := sc_state_after.nd; have hu : (A.deeper _).units + 200 < cLine := hu200 hr; have tk := tkB P w K mg base N_state_after "state_after" (defScope s_state_after) f cdv A outer s H E; have hp := hpB P w K mg base N_state_after "state_after" (defScope s_state_after) f cdv A outer s H E
    (dss_cons (ds_set 2 nd (de_int))
    (dss_cons (ds_for hp rfl (di_seq (de_var 1)) (dg_name 3 nd) (dss_one (ds_set 2 nd (de_ix (de_ix (de_ix (de_var 0) (de_int)) (de_var 2)) (de_op op_subQ (de_var 3) (de_int))))))
    (dss_one (ds_ret (de_var 2)))))
/-! ### takes -/
abbrev s_takes : Stmt := topS 12
abbrev N_takes : List Str := ["machine", "text"]
theorem sc_takes : FnScope N_takes ["machine", "text"] (defScope s_takes) := ⟨rfl, rfl, rfl, by decide +kernel, rfl, by decide +kernel, by decide +kernel⟩
def b_takes : G := (sRet (dOp inD (dCall 2 (m_state_after) (aCons (dVar 0) (aCons (dVar 1) aNil))) (dOp ixD (dVar 0) (dC (.int 1)))))
def m_takes : List D → M D := runG b_takes 2 2
theorem ok_takes {f : Addr} {fd : FuncData} (F : Fun K "takes" "takes" s_takes f fd) (hx : mg "takes" = some (.ref f)) (hb : Binds K fd ["machine", "text"] []) (F_state_after : Fn P w K mg base "state_after" 1 2 m_state_after) : Fn P w K mg base "takes" 2 2 m_takes :=
  fn_mk (N := N_takes) F sc_takes hx hb rfl fun cdv A outer s H E hr =>
    have nd := sc_takes.nd; have hu : (A.deeper _).units + 200 < cLine := hu200 hr; have tk := tkB P w K mg base N_takes "takes" (defScope s_takes) f cdv A outer s H E; have hp := hpB P w K mg base N_takes "takes" (defScope s_takes) f cdv A outer s H E
    (dss_one (ds_ret (de_cmp (op_inQ hu) (de_call F_state_after (hr.mono (by first | decide | exact Nat.le_refl _ | omega)) rfl tk (da_cons (de_var 0) (da_cons (de_var 1) da_nil))) (de_ix (de_var 0) (de_int)) rfl)))
/-! ### come_to -/
abbrev s_come_to : Stmt := topS 13
abbrev N_come_to : List Str := ["steps", "first", "found", "turn", "k", "own"]
theorem sc_come_to : FnScope N_come_to ["steps", "first"] (defScope s_come_to) := ⟨rfl, rfl, rfl, by decide +kernel, rfl, by decide +kernel, by decide +kernel⟩
def b_come_to : G := (sSeq (sMany [2, 3] (xOwn (fLst (aCons (dVar 1) aNil)) (xVal (dC (.int 0)) xNil)))
    (sSeq (sWhile fuel (dB (dOp ltD (dVar 3) (dCB lenD (aCons (dTop 2) aNil)))) (sSeq (ownAt 2 (sExt 2 (dOf (fComp (DL.iEnum (dOp ixD (dVar 0) (dOp ixD (dTop 2) (dVar 3)))) [4, 5] (gT 2 (gsC (gN 4) (gsC (gN 5) gsN))) (bAnd (dB (dOp ninD (dVar 5) (dTop 2))) (dB (dOp ninD (dVar 5) (dSlice (dOp ixD (dVar 0) (dOp ixD (dTop 2) (dVar 3))) pNone (pSome (dVar 4)))))) (dVar 5)))))
    (sSet 3 (dOp addD (dVar 3) (dC (.int 1))))))
    (sFrz 2 (sRet (dVar 2)))))
def m_come_to : List D → M D := runG b_come_to 2 6
theorem ok_come_to {f : Addr} {fd : FuncData} (F : Fun K "come_to" "come_to" s_come_to f fd) (hx : mg "come_to" = some (.ref f)) (hb : Binds K fd ["steps", "first"] []) (h_len : mg "len" = none) (h_enumerate : mg "enumerate" = none) : Fn P w K mg base "come_to" 1 2 m_come_to :=
  fn_mk (N := N_come_to) F sc_come_to hx hb rfl fun cdv A outer s H E hr =>
    have nd := sc_come_to.nd; have hu : (A.deeper _).units + 200 < cLine := hu200 hr; have tk := tkB P w K mg base N_come_to "come_to" (defScope s_come_to) f cdv A outer s H E; have hp := hpB P w K mg base N_come_to "come_to" (defScope s_come_to) f cdv A outer s H E
    (dss_cons (ds_many (n := 2) [2, 3] rfl (dx_own (df_lst (da_cons (de_var 1) da_nil)) (dx_val (de_int) dx_nil)) (pgs_cons (pg_name (i := 2) nd rfl (by first | exact .inl rfl | exact .inr rfl)) (pgs_cons (pg_name (i := 3) nd rfl (by first | exact .inl rfl | exact .inr rfl)) pgs_nil)) (xOwn_un (xVal_un xNil_un)))
    (dss_cons (ds_while fuel hp (dt_cmp op_ltQ (de_var 3) (de_callB cr_lenQ rfl h_len (by decide +kernel) (da_cons (de_top 2) da_nil)) (nomark _)) (dss_cons (ds_ext 2 (de_fresh (df_comp (own := [("k", 4), ("own", 5)]) rfl nd (di_enum rfl h_enumerate (de_ix (de_var 0) (de_ix (de_top 2) (de_var 3)))) (blkOk_by (N := N_come_to) (sc := (defScope s_come_to)) (by decide +kernel)) (by decide) (fun _ _ _ _ _ => (dg_tup rfl (dgs_cons (dg_name 4 nd) (dgs_cons (dg_name 5 nd) dgs_nil)))) (fun _ _ _ _ _ => have tk : ∀ {X : Cx}, Takes X noX := takes0; (dts_one (PW.pt (dw_and (dt_cmp (op_ninQ hu) (de_var 5) (de_top 2) rfl) (dw_and1 (dt_cmp (op_ninQ hu) (de_var 5) (de_slice (de_ix (de_var 0) (de_ix (de_top 2) (de_var 3))) dp_none (dp_some (de_var 4))) rfl)))))) (fun _ _ _ _ _ => have tk : ∀ {X : Cx}, Takes X noX := takes0; (de_var 5)))))
    (dss_one (ds_set 3 nd (de_op op_addQ (de_var 3) (de_int))))))
    (dss_one (ds_frz 2 (ds_ret (de_var 2))))))
/-! ### parts_of -/
abbrev s_parts_of : Stmt := topS 14
abbrev N_parts_of : List Str := ["steps", "ends", "parts", "many", "rows", "order", "state", "row", "own"]
theorem sc_parts_of : FnScope N_parts_of ["steps", "ends"] (defScope s_parts_of) := ⟨rfl, rfl, rfl, by decide +kernel, rfl, by decide +kernel, by decide +kernel⟩
def b_parts_of : G := (sSeq (sMany [2, 3] (xVal (dOf (fComp (iR1 (dCB lenD (aCons (dVar 0) aNil))) [6] (gN 6) bYes (dCB intD (aCons (dOp inD (dVar 6) (dVar 1)) aNil)))) (xVal (dC (.int 0)) xNil)))
    (sSeq (sWhile fuel (dB (dOp ltD (dVar 3) (dLenSet (dVar 2)))) (sSeq (sSet 3 (dLenSet (dVar 2)))
    (sSeq (sSetF 4 (fComp (iR1 (dCB lenD (aCons (dVar 0) aNil))) [6] (gN 6) bYes (dTup (aCons (dOp ixD (dVar 2) (dVar 6)) (aStar (dOf (fComp (iSeq (dOp ixD (dVar 0) (dVar 6))) [8] (gN 8) bYes (dOp ixD (dVar 2) (dVar 8)))) aNil)))))
    (sSeq (sSet 5 (dOf (fSortSet (dVar 4))))
    (sSet 2 (dOf (fComp (iSeq (dVar 4)) [7] (gN 7) bYes (dIndex (dVar 5) (dVar 7)))))))))
    (sRet (dVar 2))))
def m_parts_of : List D → M D := runG b_parts_of 2 9
theorem ok_parts_of {f : Addr} {fd : FuncData} (F : Fun K "parts_of" "parts_of" s_parts_of f fd) (hx : mg "parts_of" = some (.ref f)) (hb : Binds K fd ["steps", "ends"] []) (h_len : mg "len" = none) (h_set : mg "set" = none) (h_sorted : mg "sorted" = none) (h_range : mg "range" = none) (h_int : mg "int" = none) : Fn P w K mg base "parts_of" 1 2 m_parts_of :=
  fn_mk (N := N_parts_of) F sc_parts_of hx hb rfl fun cdv A outer s H E hr =>
    have nd := sc_parts_of.nd; have hu : (A.deeper _).units + 200 < cLine := hu200 hr; have tk := tkB P w K mg base N_parts_of "parts_of" (defScope s_parts_of) f cdv A outer s H E; have hp := hpB P w K mg base N_parts_of "parts_of" (defScope s_parts_of) f cdv A outer s H E
    (dss_cons (ds_many (n := 2) [2, 3] rfl (dx_val (de_fresh (df_comp (own := [("state", 6)]) rfl nd (di_range1 rfl h_range (de_callB cr_lenQ rfl h_len (by decide +kernel) (da_cons (de_var 0) da_nil))) (blkOk_by (N := N_parts_of) (sc := (defScope s_parts_of)) (by decide +kernel)) (by decide) (fun _ _ _ _ _ => (dg_name 6 nd)) (fun _ _ _ _ _ => have tk : ∀ {X : Cx}, Takes X noX := takes0; dts_nil) (fun _ _ _ _ _ => have tk : ∀ {X : Cx}, Takes X noX := takes0; (de_callTy cr_intQ rfl h_int (by decide +kernel) (da_cons (de_cmp (op_inQ hu) (de_var 6) (de_var 1) rfl) da_nil))))) (dx_val (de_int) dx_nil)) (pgs_cons (pg_name (i := 2) nd rfl (by first | exact .inl rfl | exact .inr rfl)) (pgs_cons (pg_name (i := 3) nd rfl (by first | exact .inl rfl | exact .inr rfl)) pgs_nil)) (xVal_un (xVal_un xNil_un)))
    (dss_cons (ds_while fuel hp (dt_cmp op_ltQ (de_var 3) (de_lenSet rfl rfl h_len rfl h_set (de_var 2)) (nomark _)) (dss_cons (ds_set 3 nd (de_lenSet rfl rfl h_len rfl h_set (de_var 2)))
    (dss_cons (ds_setLc 4 nd (own := [("state", 6)]) rfl (di_range1 rfl h_range (de_callB cr_lenQ rfl h_len (by decide +kernel) (da_cons (de_var 0) da_nil))) (blkOk_by (N := N_parts_of) (sc := (defScope s_parts_of)) (by decide +kernel)) (by decide) (fun _ _ _ _ _ => (dg_name 6 nd)) (fun _ _ _ _ _ => have tk : ∀ {X : Cx}, Takes X noX := takes0; dts_nil) (fun _ _ _ _ _ => have tk : ∀ {X : Cx}, Takes X noX := takes0; (de_tup (da_cons (de_ix (de_var 2) (de_var 6)) (da_star (de_fresh (df_comp (own := [("own", 8)]) rfl nd (di_seq (de_ix (de_var 0) (de_var 6))) (blkOk_by (N := N_parts_of) (sc := (relS { kind := PySem.ScopeKind.function, names := [(PySem.Str.ofString ".0", PySem.NameKind.local), (PySem.Str.ofString "state", PySem.NameKind.local), (PySem.Str.ofString "parts", PySem.NameKind.free), (PySem.Str.ofString "steps", PySem.NameKind.free)], isGenerator := false, isCoroutine := false, more := [] : PySem.Scope } (defScope s_parts_of))) (by decide +kernel)) (by decide) (fun _ _ _ _ _ => (dg_name 8 nd)) (fun _ _ _ _ _ => have tk : ∀ {X : Cx}, Takes X noX := takes0; dts_nil) (fun _ _ _ _ _ => have tk : ∀ {X : Cx}, Takes X noX := takes0; (de_ix (de_var 2) (de_var 8))))) da_nil)))))
    (dss_cons (ds_set 5 nd (de_fresh (df_sortSet rfl hu rfl h_sorted rfl h_set (de_var 4))))
    (dss_one (ds_set 2 nd (de_fresh (df_comp (own := [("row", 7)]) rfl nd (di_seq (de_var 4)) (blkOk_by (N := N_parts_of) (sc := (defScope s_parts_of)) (by decide +kernel)) (by decide) (fun _ _ _ _ _ => (dg_name 7 nd)) (fun _ _ _ _ _ => have tk : ∀ {X : Cx}, Takes X noX := takes0; dts_nil) (fun _ _ _ _ _ => have tk : ∀ {X : Cx}, Takes X noX := takes0; (de_index hu (de_var 5) (de_var 7)))))))))))
    (dss_one (ds_ret (de_var 2)))))
/-! ### renamed -/
abbrev s_renamed : Stmt := topS 15
abbrev N_renamed : List Str := ["steps", "ends", "first", "found", "places", "rows", "place", "state", "own"]
theorem sc_renamed : FnScope N_renamed ["steps", "ends", "first"] (defScope s_renamed) := ⟨rfl, rfl, rfl, by decide +kernel, rfl, by decide +kernel, by decide +kernel⟩
def b_renamed : G := (sSeq (sSet 3 (dCall 2 (m_come_to) (aCons (dVar 0) (aCons (dVar 2) aNil))))
    (sSeq (sSet 4 (dDc (DL.iEnum (dVar 3)) [6, 7] (gT 2 (gsC (gN 6) (gsC (gN 7) gsN))) bYes (dVar 7) (dVar 6)))
    (sSeq (sSet 5 (dCB tupleD (aCons (dOf (fComp (iSeq (dVar 3)) [7] (gN 7) bYes (dCB tupleD (aCons (dOf (fComp (iSeq (dOp ixD (dVar 0) (dVar 7))) [8] (gN 8) bYes (dOp ixD (dVar 4) (dVar 8)))) aNil)))) aNil)))
    (sRet (dTup (aCons (dVar 5) (aCons (dCB tupleD (aCons (dOf (fComp (DL.iEnum (dVar 3)) [6, 7] (gT 2 (gsC (gN 6) (gsC (gN 7) gsN))) (dB (dOp inD (dVar 7) (dVar 1))) (dVar 6))) aNil)) aNil)))))))
def m_renamed : List D → M D := runG b_renamed 3 9
theorem ok_renamed {f : Addr} {fd : FuncData} (F : Fun K "renamed" "renamed" s_renamed f fd) (hx : mg "renamed" = some (.ref f)) (hb : Binds K fd ["steps", "ends", "first"] []) (h_tuple : mg "tuple" = none) (h_enumerate : mg "enumerate" = none) (F_come_to : Fn P w K mg base "come_to" 1 2 m_come_to) : Fn P w K mg base "renamed" 2 3 m_renamed :=
  fn_mk (N := N_renamed) F sc_renamed hx hb rfl fun cdv A outer s H E hr =>
    have nd := sc_renamed.nd; have hu : (A.deeper _).units + 200 < cLine := hu200 hr; have tk := tkB P w K mg base N_renamed "renamed" (defScope s_renamed) f cdv A outer s H E; have hp := hpB P w K mg base N_renamed "renamed" (defScope s_renamed) f cdv A outer s H E
    (dss_cons (ds_set 3 nd (de_call F_come_to (hr.mono (by first | decide | exact Nat.le_refl _ | omega)) rfl tk (da_cons (de_var 0) (da_cons (de_var 2) da_nil))))
    (dss_cons (ds_set 4 nd (de_dc (own := [("place", 6), ("state", 7)]) rfl nd (di_enum rfl h_enumerate (de_var 3)) (blkOk_by (N := N_renamed) (sc := (defScope s_renamed)) (by decide +kernel)) (by decide) (fun _ _ _ _ _ => (dg_tup rfl (dgs_cons (dg_name 6 nd) (dgs_cons (dg_name 7 nd) dgs_nil)))) (fun _ _ _ _ _ => have tk : ∀ {X : Cx}, Takes X noX := takes0; dts_nil) (fun _ _ _ _ _ => have tk : ∀ {X : Cx}, Takes X noX := takes0; (de_var 7)) (fun _ _ _ _ _ => have tk : ∀ {X : Cx}, Takes X noX := takes0; (de_var 6))))
    (dss_cons (ds_set 5 nd (de_callTy cr_tupleQ rfl h_tuple (by decide +kernel) (da_cons (de_fresh (df_comp (own := [("state", 7)]) rfl nd (di_seq (de_var 3)) (blkOk_by (N := N_renamed) (sc := (defScope s_renamed)) (by decide +kernel)) (by decide) (fun _ _ _ _ _ => (dg_name 7 nd)) (fun _ _ _ _ _ => have tk : ∀ {X : Cx}, Takes X noX := takes0; dts_nil) (fun _ _ _ _ _ => have tk : ∀ {X : Cx}, Takes X noX := takes0; (de_callTy cr_tupleQ rfl h_tuple (by decide +kernel) (da_cons (de_fresh (df_comp (own := [("own", 8)]) rfl nd (di_seq (de_ix (de_var 0) (de_var 7))) (blkOk_by (N := N_renamed) (sc := (relS { kind := PySem.ScopeKind.function, names := [(PySem.Str.ofString ".0", PySem.NameKind.local), (PySem.Str.ofString "state", PySem.NameKind.local), (PySem.Str.ofString "tuple", PySem.NameKind.globalImplicit), (PySem.Str.ofString "places", PySem.NameKind.free), (PySem.Str.ofString "steps", PySem.NameKind.free)], isGenerator := false, isCoroutine := false, more := [] : PySem.Scope } (defScope s_renamed))) (by decide +kernel)) (by decide) (fun _ _ _ _ _ => (dg_name 8 nd)) (fun _ _ _ _ _ => have tk : ∀ {X : Cx}, Takes X noX := takes0; dts_nil) (fun _ _ _ _ _ => have tk : ∀ {X : Cx}, Takes X noX := takes0; (de_ix (de_var 4) (de_var 8))))) da_nil))))) da_nil)))
    (dss_one (ds_ret (de_tup (da_cons (de_var 5) (da_cons (de_callTy cr_tupleQ rfl h_tuple (by decide +kernel) (da_cons (de_fresh (df_comp (own := [("place", 6), ("state", 7)]) rfl nd (di_enum rfl h_enumerate (de_var 3)) (blkOk_by (N := N_renamed) (sc := (defScope s_renamed)) (by decide +kernel)) (by decide) (fun _ _ _ _ _ => (dg_tup rfl (dgs_cons (dg_name 6 nd) (dgs_cons (dg_name 7 nd) dgs_nil)))) (fun _ _ _ _ _ => have tk : ∀ {X : Cx}, Takes X noX := takes0; (dts_one (dt_cmp (op_inQ hu) (de_var 7) (de_var 1) rfl))) (fun _ _ _ _ _ => have tk : ∀ {X : Cx}, Takes X noX := takes0; (de_var 6)))) da_nil)) da_nil))))))))
/-! ### least_of -/
abbrev s_least_of : Stmt := topS 16
abbrev N_least_of : List Str := ["steps", "ends", "first", "rows", "later", "parts", "heads", "thin", "part", "head", "own"]
theorem sc_least_of : FnScope N_least_of ["steps", "ends", "first"] (defScope s_least_of) := ⟨rfl, rfl, rfl, by decide +kernel, rfl, by decide +kernel, by decide +kernel⟩
def b_least_of : G := (sSeq (sAsg (dCall 3 (m_renamed) (aCons (dVar 0) (aCons (dVar 1) (aCons (dVar 2) aNil)))) (gT 2 (gsC (gN 3) (gsC (gN 4) gsN))))
    (sSeq (sSet 5 (dCall 2 (m_parts_of) (aCons (dVar 3) (aCons (dVar 4) aNil))))
    (sSeq (sSetF 6 (fComp (iR1 (dOp addD (dCB maxLD (aCons (dVar 5) aNil)) (dC (.int 1)))) [8] (gN 8) bYes (dIndex (dVar 5) (dVar 8))))
    (sSeq (sSetF 7 (fComp (iSeq (dVar 6)) [9] (gN 9) bYes (dOf (fComp (iSeq (dOp ixD (dVar 3) (dVar 9))) [10] (gN 10) bYes (dOp ixD (dVar 5) (dVar 10))))))
    (sRet (dCall 3 (m_renamed) (aCons (dVar 7) (aCons (dOf (fComp (DL.iEnum (dVar 6)) [8, 9] (gT 2 (gsC (gN 8) (gsC (gN 9) gsN))) (dB (dOp inD (dVar 9) (dVar 4))) (dVar 8))) (aCons (dOp ixD (dVar 5) (dC (.int 0))) aNil)))))))))
def m_least_of : List D → M D := runG b_least_of 3 11
theorem ok_least_of {f : Addr} {fd : FuncData} (F : Fun K "least_of" "least_of" s_least_of f fd) (hx : mg "least_of" = some (.ref f)) (hb : Binds K fd ["steps", "ends", "first"] []) (h_enumerate : mg "enumerate" = none) (h_range : mg "range" = none) (h_max : mg "max" = none) (F_renamed : Fn P w K mg base "renamed" 2 3 m_renamed) (F_parts_of : Fn P w K mg base "parts_of" 1 2 m_parts_of) : Fn P w K mg base "least_of" 3 3 m_least_of :=
  fn_mk (N := N_least_of) F sc_least_of hx hb rfl fun cdv A outer s H E hr =>
    have nd := sc_least_of.nd; have hu : (A.deeper _).units + 200 < cLine := hu200 hr; have tk := tkB P w K mg base N_least_of "least_of" (defScope s_least_of) f cdv A outer s H E; have hp := hpB P w K mg base N_least_of "least_of" (defScope s_least_of) f cdv A outer s H E
    (dss_cons (ds_asg (de_call F_renamed (hr.mono (by first | decide | exact Nat.le_refl _ | omega)) rfl tk (da_cons (de_var 0) (da_cons (de_var 1) (da_cons (de_var 2) da_nil)))) (dg_tup rfl (dgs_cons (dg_name 3 nd) (dgs_cons (dg_name 4 nd) dgs_nil))))
    (dss_cons (ds_set 5 nd (de_call F_parts_of (hr.mono (by first | decide | exact Nat.le_refl _ | omega)) rfl tk (da_cons (de_var 3) (da_cons (de_var 4) da_nil))))
    (dss_cons (ds_setLc 6 nd (own := [("part", 8)]) rfl (di_range1 rfl h_range (de_op op_addQ (de_callB (cr_maxLQ rfl) rfl h_max (by decide +kernel) (da_cons (de_var 5) da_nil)) (de_int))) (blkOk_by (N := N_least_of) (sc := (defScope s_least_of)) (by decide +kernel)) (by decide) (fun _ _ _ _ _ => (dg_name 8 nd)) (fun _ _ _ _ _ => have tk : ∀ {X : Cx}, Takes X noX := takes0; dts_nil) (fun _ _ _ _ _ => have tk : ∀ {X : Cx}, Takes X noX := takes0; (de_index hu (de_var 5) (de_var 8))))
    (dss_cons (ds_setLc 7 nd (own := [("head", 9)]) rfl (di_seq (de_var 6)) (blkOk_by (N := N_least_of) (sc := (defScope s_least_of)) (by decide +kernel)) (by decide) (fun _ _ _ _ _ => (dg_name 9 nd)) (fun _ _ _ _ _ => have tk : ∀ {X : Cx}, Takes X noX := takes0; dts_nil) (fun _ _ _ _ _ => have tk : ∀ {X : Cx}, Takes X noX := takes0; (de_fresh (df_comp (own := [("own", 10)]) rfl nd (di_seq (de_ix (de_var 3) (de_var 9))) (blkOk_by (N := N_least_of) (sc := (relS { kind := PySem.ScopeKind.function, names := [(PySem.Str.ofString ".0", PySem.NameKind.local), (PySem.Str.ofString "head", PySem.NameKind.local), (PySem.Str.ofString "parts", PySem.NameKind.free), (PySem.Str.ofString "rows", PySem.NameKind.free)], isGenerator := false, isCoroutine := false, more := [] : PySem.Scope } (defScope s_least_of))) (by decide +kernel)) (by decide) (fun _ _ _ _ _ => (dg_name 10 nd)) (fun _ _ _ _ _ => have tk : ∀ {X : Cx}, Takes X noX := takes0; dts_nil) (fun _ _ _ _ _ => have tk : ∀ {X : Cx}, Takes X noX := takes0; (de_ix (de_var 5) (de_var 10)))))))
    (dss_one (ds_ret (de_call F_renamed (hr.mono (by first | decide | exact Nat.le_refl _ | omega)) rfl tk (da_cons (de_var 7) (da_cons (de_fresh (df_comp (own := [("part", 8), ("head", 9)]) rfl nd (di_enum rfl h_enumerate (de_var 6)) (blkOk_by (N := N_least_of) (sc := (defScope s_least_of)) (by decide +kernel)) (by decide) (fun _ _ _ _ _ => (dg_tup rfl (dgs_cons (dg_name 8 nd) (dgs_cons (dg_name 9 nd) dgs_nil)))) (fun _ _ _ _ _ => have tk : ∀ {X : Cx}, Takes X noX := takes0; (dts_one (dt_cmp (op_inQ hu) (de_var 9) (de_var 4) rfl))) (fun _ _ _ _ _ => have tk : ∀ {X : Cx}, Takes X noX := takes0; (de_var 8)))) (da_cons (de_ix (de_var 5) (de_int)) da_nil))))))))))
/-! ### least -/
abbrev s_least : Stmt := topS 17
abbrev N_least : List Str := ["machine"]
theorem sc_least : FnScope N_least ["machine"] (defScope s_least) := ⟨rfl, rfl, rfl, by decide +kernel, rfl, by decide +kernel, by decide +kernel⟩
def b_least : G := (sRet (dCall 3 (m_least_of) (aCons (dOp ixD (dVar 0) (dC (.int 0))) (aCons (dOp ixD (dVar 0) (dC (.int 1))) (aCons (dC (.int 0)) aNil)))))
def m_least : List D → M D := runG b_least 1 1
theorem ok_least {f : Addr} {fd : FuncData} (F : Fun K "least" "least" s_least f fd) (hx : mg "least" = some (.ref f)) (hb : Binds K fd ["machine"] []) (F_least_of : Fn P w K mg base "least_of" 3 3 m_least_of) : Fn P w K mg base "least" 4 1 m_least :=
  fn_mk (N := N_least) F sc_least hx hb rfl fun cdv A outer s H E hr =>
    have nd := sc_least.nd; have hu : (A.deeper _).units + 200 < cLine := hu200 hr; have tk := tkB P w K mg base N_least "least" (defScope s_least) f cdv A outer s H E; have hp := hpB P w K mg base N_least "least" (defScope s_least) f cdv A outer s H E
    (dss_one (ds_ret (de_call F_least_of (hr.mono (by first | decide | exact Nat.le_refl _ | omega)) rfl tk (da_cons (de_ix (de_var 0) (de_int)) (da_cons (de_ix (de_var 0) (de_int)) (da_cons (de_int) da_nil))))))
/-! ### sure_wide -/
abbrev s_sure_wide : Stmt := topS 18
abbrev N_sure_wide : List Str := ["one", "other"]
theorem sc_sure_wide : FnScope N_sure_wide ["one", "other"] (defScope s_sure_wide) := ⟨rfl, rfl, rfl, by decide +kernel, rfl, by decide +kernel, by decide +kernel⟩
def b_sure_wide : G := (sIf (dB (dOp neD (dCall 1 (m_wide_of) (aCons (dVar 0) aNil)) (dCall 1 (m_wide_of) (aCons (dVar 1) aNil)))) (sRaise "Unfit") sNil)
def m_sure_wide : List D → M D := runG b_sure_wide 2 2
theorem ok_sure_wide {f : Addr} {fd : FuncData} (F : Fun K "sure_wide" "sure_wide" s_sure_wide f fd) (hx : mg "sure_wide" = some (.ref f)) (hb : Binds K fd ["one", "other"] []) (E_Unfit : ErrC K mg "Unfit") (F_wide_of : Fn P w K mg base "wide_of" 1 1 m_wide_of) : Fn P w K mg base "sure_wide" 2 2 m_sure_wide :=
  fn_mk (N := N_sure_wide) F sc_sure_wide hx hb rfl fun cdv A outer s H E hr =>
    have nd := sc_sure_wide.nd; have hu : (A.deeper _).units + 200 < cLine := hu200 hr; have tk := tkB P w K mg base N_sure_wide "sure_wide" (defScope s_sure_wide) f cdv A outer s H E; have hp := hpB P w K mg base N_sure_wide "sure_wide" (defScope s_sure_wide) f cdv A outer s H E
    (dss_one (ds_if (dt_cmp (op_neQ hu) (de_call F_wide_of (hr.mono (by first | decide | exact Nat.le_refl _ | omega)) rfl tk (da_cons (de_var 0) da_nil)) (de_call F_wide_of (hr.mono (by first | decide | exact Nat.le_refl _ | omega)) rfl tk (da_cons (de_var 1) da_nil)) (nomark _)) (dss_one (ds_raise E_Unfit rfl tk rfl)) dss_nil))
/-! ### alike -/
abbrev s_alike : Stmt := topS 19
abbrev N_alike : List Str := ["one", "other"]
theorem sc_alike : FnScope N_alike ["one", "other"] (defScope s_alike) := ⟨rfl, rfl, rfl, by decide +kernel, rfl, by decide +kernel, by decide +kernel⟩
def b_alike : G := (sSeq (sExpr (dCall 2 (m_sure_wide) (aCons (dVar 0) (aCons (dVar 1) aNil))))
    (sRet (dOp eqD (dCall 1 (m_least) (aCons (dVar 0) aNil)) (dCall 1 (m_least) (aCons (dVar 1) aNil)))))
def m_alike : List D → M D := runG b_alike 2 2
theorem ok_alike {f : Addr} {fd : FuncData} (F : Fun K "alike" "alike" s_alike f fd) (hx : mg "alike" = some (.ref f)) (hb : Binds K fd ["one", "other"] []) (F_least : Fn P w K mg base "least" 4 1 m_least) (F_sure_wide : Fn P w K mg base "sure_wide" 2 2 m_sure_wide) : Fn P w K mg base "alike" 5 2 m_alike :=
  fn_mk (N := N_alike) F sc_alike hx hb rfl fun cdv A outer s H E hr =>
    have nd := sc_alike.nd; have hu : (A.deeper _).units + 200 < cLine := hu200 hr; have tk := tkB P w K mg base N_alike "alike" (defScope s_alike) f cdv A outer s H E; have hp := hpB P w K mg base N_alike "alike" (defScope s_alike) f cdv A outer s H E
    (dss_cons (ds_expr (de_call F_sure_wide (hr.mono (by first | decide | exact Nat.le_refl _ | omega)) rfl tk (da_cons (de_var 0) (da_cons (de_var 1) da_nil))))
    (dss_one (ds_ret (de_cmp (op_eqQ hu) (de_call F_least (hr.mono (by first | decide | exact Nat.le_refl _ | omega)) rfl tk (da_cons (de_var 0) da_nil)) (de_call F_least (hr.mono (by first | decide | exact Nat.le_refl _ | omega)) rfl tk (da_cons (de_var 1) da_nil)) (nomark _)))))
/-! ### is_good -/
abbrev s_is_good : Stmt := topS 20
abbrev N_is_good : List Str := ["near", "far", "word"]
theorem sc_is_good : FnScope N_is_good ["near", "far", "word"] (defScope s_is_good) := ⟨rfl, rfl, rfl, by decide +kernel, rfl, by decide +kernel, by decide +kernel⟩
def b_is_good : G := (sSeq (sIf (dB (dOp eqD (dVar 2) (dC (.str "both")))) (sRet (dAnd (dVar 0) (dVar 1))) sNil)
    (sRet (dIf (dB (dOp eqD (dVar 2) (dC (.str "either")))) (dOr (dVar 0) (dVar 1)) (dOp neD (dVar 0) (dVar 1)))))
def m_is_good : List D → M D := runG b_is_good 3 3
theorem ok_is_good {f : Addr} {fd : FuncData} (F : Fun K "is_good" "is_good" s_is_good f fd) (hx : mg "is_good" = some (.ref f)) (hb : Binds K fd ["near", "far", "word"] []) : Fn P w K mg base "is_good" 1 3 m_is_good :=
  fn_mk (N := N_is_good) F sc_is_good hx hb rfl fun cdv A outer s H E hr =>
    have nd := sc_is_good.nd; have hu : (A.deeper _).units + 200 < cLine := hu200 hr; have tk := tkB P w K mg base N_is_good "is_good" (defScope s_is_good) f cdv A outer s H E; have hp := hpB P w K mg base N_is_good "is_good" (defScope s_is_good) f cdv A outer s H E
    (dss_cons (ds_if (dt_cmp (op_eqQ hu) (de_var 2) (de_str) (nomark _)) (dss_one (ds_ret (de_and (de_var 0) (de_one (de_var 1))))) dss_nil)
    (dss_one (ds_ret (de_if (dt_cmp (op_eqQ hu) (de_var 2) (de_str) (nomark _)) (de_or (de_var 0) (de_one (de_var 1))) (de_cmp (op_neQ hu) (de_var 0) (de_var 1) (nomark _))))))
/-! ### joined -/
abbrev s_joined : Stmt := topS 21
abbrev N_joined : List Str := ["one", "other", "word", "many", "steps", "ends", "near", "row", "far", "line", "left", "right"]
theorem sc_joined : FnScope N_joined ["one", "other", "word"] (defScope s_joined) := ⟨rfl, rfl, rfl, by decide +kernel, rfl, by decide +kernel, by decide +kernel⟩
def b_joined : G := (sSeq (sExpr (dCall 2 (m_sure_wide) (aCons (dVar 0) (aCons (dVar 1) aNil))))
    (sSeq (sMany [3, 4, 5] (xVal (dCB lenD (aCons (dOp ixD (dVar 1) (dC (.int 0))) aNil)) (xOwn (fLst aNil) (xOwn (fLst aNil) xNil))))
    (sSeq (sFor (DL.iEnum (dOp ixD (dVar 0) (dC (.int 0)))) (gT 2 (gsC (gN 6) (gsC (gN 7) gsN))) (sFor (DL.iEnum (dOp ixD (dVar 1) (dC (.int 0)))) (gT 2 (gsC (gN 8) (gsC (gN 9) gsN))) (sSeq (sIf (dB (dCall 3 (m_is_good) (aCons (dOp inD (dVar 6) (dOp ixD (dVar 0) (dC (.int 1)))) (aCons (dOp inD (dVar 8) (dOp ixD (dVar 1) (dC (.int 1)))) (aCons (dVar 2) aNil))))) (ownAt 5 (sApp 5 (dOp addD (dOp mulD (dVar 6) (dVar 3)) (dVar 8)))) sNil)
    (ownAt 4 (sApp 4 (dOf (fComp (DL.iZipA (dVar 7) (dVar 9)) [10, 11] (gT 2 (gsC (gN 10) (gsC (gN 11) gsN))) bYes (dOp addD (dOp mulD (dVar 10) (dVar 3)) (dVar 11)))))))))
    (sRet (dCallT 3 (m_least_of) (aCons (dTop 4) (aCons (dTop 5) (aCons (dC (.int 0)) aNil))))))))
def m_joined : List D → M D := runG b_joined 3 12
theorem ok_joined {f : Addr} {fd : FuncData} (F : Fun K "joined" "joined" s_joined f fd) (hx : mg "joined" = some (.ref f)) (hb : Binds K fd ["one", "other", "word"] []) (h_enumerate : mg "enumerate" = none) (h_zip : mg "zip" = none) (h_len : mg "len" = none) (F_least_of : Fn P w K mg base "least_of" 3 3 m_least_of) (F_is_good : Fn P w K mg base "is_good" 1 3 m_is_good) (F_sure_wide : Fn P w K mg base "sure_wide" 2 2 m_sure_wide) : Fn P w K mg base "joined" 4 3 m_joined :=
  fn_mk (N := N_joined) F sc_joined hx hb rfl fun cdv A outer s H E hr =>
    have nd := sc_joined.nd; have hu : (A.deeper _).units + 200 < cLine := hu200 hr; have tk := tkB P w K mg base N_joined "joined" (defScope s_joined) f cdv A outer s H E; have hp := hpB P w K mg base N_joined "joined" (defScope s_joined) f cdv A outer s H E
    (dss_cons (ds_expr (de_call F_sure_wide (hr.mono (by first | decide | exact Nat.le_refl _ | omega)) rfl tk (da_cons (de_var 0) (da_cons (de_var 1) da_nil))))
    (dss_cons (ds_many (n := 3) [3, 4, 5] rfl (dx_val (de_callB cr_lenQ rfl h_len (by decide +kernel) (da_cons (de_ix (de_var 1) (de_int)) da_nil)) (dx_own (df_lst da_nil) (dx_own (df_lst da_nil) dx_nil))) (pgs_cons (pg_name (i := 3) nd rfl (by first | exact .inl rfl | exact .inr rfl)) (pgs_cons (pg_name (i := 4) nd rfl (by first | exact .inl rfl | exact .inr rfl)) (pgs_cons (pg_name (i := 5) nd rfl (by first | exact .inl rfl | exact .inr rfl)) pgs_nil))) (xVal_un (xOwn_un (xOwn_un xNil_un))))
    (dss_cons (ds_for hp rfl (di_enum rfl h_enumerate (de_ix (de_var 0) (de_int))) (dg_tup rfl (dgs_cons (dg_name 6 nd) (dgs_cons (dg_name 7 nd) dgs_nil))) (dss_one (ds_for hp rfl (di_enum rfl h_enumerate (de_ix (de_var 1) (de_int))) (dg_tup rfl (dgs_cons (dg_name 8 nd) (dgs_cons (dg_name 9 nd) dgs_nil))) (dss_cons (ds_if (dt_val (de_call F_is_good (hr.mono (by first | decide | exact Nat.le_refl _ | omega)) rfl tk (da_cons (de_cmp (op_inQ hu) (de_var 6) (de_ix (de_var 0) (de_int)) rfl) (da_cons (de_cmp (op_inQ hu) (de_var 8) (de_ix (de_var 1) (de_int)) rfl) (da_cons (de_var 2) da_nil))))) (dss_one (ds_app 5 (de_op op_addQ (de_op op_mulQ (de_var 6) (de_var 3)) (de_var 8)))) dss_nil)
    (dss_one (ds_app 4 (de_fresh (df_comp (own := [("left", 10), ("right", 11)]) rfl nd (di_zipA rfl h_zip (de_var 7) (de_var 9)) (blkOk_by (N := N_joined) (sc := (defScope s_joined)) (by decide +kernel)) (by decide) (fun _ _ _ _ _ => (dg_tup rfl (dgs_cons (dg_name 10 nd) (dgs_cons (dg_name 11 nd) dgs_nil)))) (fun _ _ _ _ _ => have tk : ∀ {X : Cx}, Takes X noX := takes0; dts_nil) (fun _ _ _ _ _ => have tk : ∀ {X : Cx}, Takes X noX := takes0; (de_op op_addQ (de_op op_mulQ (de_var 10) (de_var 3)) (de_var 11)))))))))))
    (dss_one (ds_ret (de_callT F_least_of (hr.mono (by first | decide | exact Nat.le_refl _ | omega)) rfl tk (da_cons (de_top 4) (da_cons (de_top 5) (da_cons (de_int) da_nil)))))))))
/-! ### first_of -/
abbrev s_first_of : Stmt := topS 22
abbrev N_first_of : List Str := ["steps", "ends", "first", "found", "texts", "turn", "letter", "own"]
theorem sc_first_of : FnScope N_first_of ["steps", "ends", "first"] (defScope s_first_of) := ⟨rfl, rfl, rfl, by decide +kernel, rfl, by decide +kernel, by decide +kernel⟩
def b_first_of : G := (sSeq (sMany [3, 4, 5] (xOwn (fLst (aCons (dVar 2) aNil)) (xOwn (fLst (aCons (dTup aNil) aNil)) (xVal (dC (.int 0)) xNil))))
    (sSeq (sWhile fuel (dB (dOp ltD (dVar 5) (dCB lenD (aCons (dTop 3) aNil)))) (sSeq (sIf (dB (dOp inD (dOp ixD (dTop 3) (dVar 5)) (dVar 1))) (sRet (dOp ixD (dTop 4) (dVar 5))) sNil)
    (sSeq (sFor (DL.iEnum (dOp ixD (dVar 0) (dOp ixD (dTop 3) (dVar 5)))) (gT 2 (gsC (gN 6) (gsC (gN 7) gsN))) (sIf (dB (dOp ninD (dVar 7) (dTop 3))) (sSeq (ownAt 3 (sApp 3 (dVar 7)))
    (ownAt 4 (sApp 4 (dTup (aStar (dOp ixD (dTop 4) (dVar 5)) (aCons (dOp addD (dVar 6) (dC (.int 1))) aNil)))))) sNil))
    (sSet 5 (dOp addD (dVar 5) (dC (.int 1)))))))
    (sRet (dC .non))))
def m_first_of : List D → M D := runG b_first_of 3 8
theorem ok_first_of {f : Addr} {fd : FuncData} (F : Fun K "first_of" "first_of" s_first_of f fd) (hx : mg "first_of" = some (.ref f)) (hb : Binds K fd ["steps", "ends", "first"] []) (h_len : mg "len" = none) (h_enumerate : mg "enumerate" = none) : Fn P w K mg base "first_of" 1 3 m_first_of :=
  fn_mk (N := N_first_of) F sc_first_of hx hb rfl fun cdv A outer s H E hr =>
    have nd := sc_first_of.nd; have hu : (A.deeper _).units + 200 < cLine := hu200 hr; have tk := tkB P w K mg base N_first_of "first_of" (defScope s_first_of) f cdv A outer s H E; have hp := hpB P w K mg base N_first_of "first_of" (defScope s_first_of) f cdv A outer s H E
    (dss_cons (ds_par3 (i := 3) (j := 4) (l := 5) rfl nd rfl rfl rfl (by decide) (by decide) (by decide) rfl rfl rfl (dx_own (df_lst (da_cons (de_var 2) da_nil)) (dx_own (df_lst (da_cons (de_tup da_nil) da_nil)) (dx_val (de_int) dx_nil))) (xOwn_un (xOwn_un (xVal_un xNil_un))) rfl)
    (dss_cons (ds_while fuel hp (dt_cmp op_ltQ (de_var 5) (de_callB cr_lenQ rfl h_len (by decide +kernel) (da_cons (de_top 3) da_nil)) (nomark _)) (dss_cons (ds_if (dt_cmp (op_inQ hu) (de_ix (de_top 3) (de_var 5)) (de_var 1) rfl) (dss_one (ds_ret (de_ix (de_top 4) (de_var 5)))) dss_nil)
    (dss_cons (ds_for hp rfl (di_enum rfl h_enumerate (de_ix (de_var 0) (de_ix (de_top 3) (de_var 5)))) (dg_tup rfl (dgs_cons (dg_name 6 nd) (dgs_cons (dg_name 7 nd) dgs_nil))) (dss_one (ds_if (dt_cmp (op_ninQ hu) (de_var 7) (de_top 3) rfl) (dss_cons (ds_app 3 (de_var 7))
    (dss_one (ds_app 4 (de_tup (da_star (de_ix (de_top 4) (de_var 5)) (da_cons (de_op op_addQ (de_var 6) (de_int)) da_nil)))))) dss_nil)))
    (dss_one (ds_set 5 nd (de_op op_addQ (de_var 5) (de_int)))))))
    (dss_one (ds_ret (de_non)))))
/-! ### first_taken -/
abbrev s_first_taken : Stmt := topS 23
abbrev N_first_taken : List Str := ["machine", "found"]
theorem sc_first_taken : FnScope N_first_taken ["machine"] (defScope s_first_taken) := ⟨rfl, rfl, rfl, by decide +kernel, rfl, by decide +kernel, by decide +kernel⟩
def b_first_taken : G := (sSeq (sSet 1 (dCall 3 (m_first_of) (aCons (dOp ixD (dVar 0) (dC (.int 0))) (aCons (dOp ixD (dVar 0) (dC (.int 1))) (aCons (dC (.int 0)) aNil)))))
    (sSeq (sIf (dB (dOp isND (dVar 1) (dC .non))) (sRaise "CanNot") sNil)
    (sRet (dVar 1))))
def m_first_taken : List D → M D := runG b_first_taken 1 2
theorem ok_first_taken {f : Addr} {fd : FuncData} (F : Fun K "first_taken" "first_taken" s_first_taken f fd) (hx : mg "first_taken" = some (.ref f)) (hb : Binds K fd ["machine"] []) (E_CanNot : ErrC K mg "CanNot") (F_first_of : Fn P w K mg base "first_of" 1 3 m_first_of) : Fn P w K mg base "first_taken" 2 1 m_first_taken :=
  fn_mk (N := N_first_taken) F sc_first_taken hx hb rfl fun cdv A outer s H E hr =>
    have nd := sc_first_taken.nd; have hu : (A.deeper _).units + 200 < cLine := hu200 hr; have tk := tkB P w K mg base N_first_taken "first_taken" (defScope s_first_taken) f cdv A outer s H E; have hp := hpB P w K mg base N_first_taken "first_taken" (defScope s_first_taken) f cdv A outer s H E
    (dss_cons (ds_set 1 nd (de_call F_first_of (hr.mono (by first | decide | exact Nat.le_refl _ | omega)) rfl tk (da_cons (de_ix (de_var 0) (de_int)) (da_cons (de_ix (de_var 0) (de_int)) (da_cons (de_int) da_nil)))))
    (dss_cons (ds_if (dt_cmp op_isQ (de_var 1) (de_non) (nomark _)) (dss_one (ds_raise E_CanNot rfl tk rfl)) dss_nil)
    (dss_one (ds_ret (de_var 1)))))
/-! ### parting -/
abbrev s_parting : Stmt := topS 24
abbrev N_parting : List Str := ["one", "other"]
theorem sc_parting : FnScope N_parting ["one", "other"] (defScope s_parting) := ⟨rfl, rfl, rfl, by decide +kernel, rfl, by decide +kernel, by decide +kernel⟩
def b_parting : G := (sRet (dCall 1 (m_first_taken) (aCons (dCall 3 (m_joined) (aCons (dVar 0) (aCons (dVar 1) (aCons (dC (.str "unlike")) aNil)))) aNil)))
def m_parting : List D → M D := runG b_parting 2 2
theorem ok_parting {f : Addr} {fd : FuncData} (F : Fun K "parting" "parting" s_parting f fd) (hx : mg "parting" = some (.ref f)) (hb : Binds K fd ["one", "other"] []) (F_first_taken : Fn P w K mg base "first_taken" 2 1 m_first_taken) (F_joined : Fn P w K mg base "joined" 4 3 m_joined) : Fn P w K mg base "parting" 5 2 m_parting :=
  fn_mk (N := N_parting) F sc_parting hx hb rfl fun cdv A outer s H E hr =>
    have nd := sc_parting.nd; have hu : (A.deeper _).units + 200 < cLine := hu200 hr; have tk := tkB P w K mg base N_parting "parting" (defScope s_parting) f cdv A outer s H E; have hp := hpB P w K mg base N_parting "parting" (defScope s_parting) f cdv A outer s H E
    (dss_one (ds_ret (de_call F_first_taken (hr.mono (by first | decide | exact Nat.le_refl _ | omega)) rfl tk (da_cons (de_call F_joined (hr.mono (by first | decide | exact Nat.le_refl _ | omega)) rfl tk (da_cons (de_var 0) (da_cons (de_var 1) (da_cons (de_str) da_nil)))) da_nil))))
/-! ### _law_box -/
abbrev s_law_box : Stmt := topS 26
abbrev N_law_box : List Str := ["script", "k", "cell"]
theorem sc_law_box : FnScope N_law_box ["script", "k"] (defScope s_law_box) := ⟨rfl, rfl, rfl, by decide +kernel, rfl, by decide +kernel, by decide +kernel⟩
def b_law_box : G := (sSeq (sSet 2 (dIf (dB (dOp ltD (dVar 1) (dCB lenD (aCons (dVar 0) aNil)))) (dOp ixD (dVar 0) (dVar 1)) (dC (.int 0))))
    (sRet (dOf (fLst (aCons (dOp mulD (dCB absD (aCons (dVar 2) aNil)) (dCB intD (aCons (dOp geD (dCB absD (aCons (dVar 2) aNil)) (dOp powD (dC (.int 10)) (dC (.int 18)))) aNil))) (aCons (dOp addD (dOp addD (dOp modD (dCB intD (aCons (dVar 2) aNil)) (dC (.int 2305843009213693951))) (dOp mulD (dC (.int 39373)) (dVar 1))) (dC (.int 2632284))) (aCons (dC (.int 0)) aNil)))))))
def m_law_box : List D → M D := runG b_law_box 2 3
theorem ok_law_box {f : Addr} {fd : FuncData} (F : Fun K "_law_box" "_law_box" s_law_box f fd) (hx : mg "_law_box" = some (.ref f)) (hb : Binds K fd ["script", "k"] []) (h_int : mg "int" = none) (h_abs : mg "abs" = none) (h_len : mg "len" = none) : Fn P w K mg base "_law_box" 1 2 m_law_box :=
  fn_mk (N := N_law_box) F sc_law_box hx hb rfl fun cdv A outer s H E hr =>
    have nd := sc_law_box.nd; have hu : (A.deeper _).units + 200 < cLine := hu200 hr; have tk := tkB P w K mg base N_law_box "_law_box" (defScope s_law_box) f cdv A outer s H E; have hp := hpB P w K mg base N_law_box "_law_box" (defScope s_law_box) f cdv A outer s H E
    (dss_cons (ds_set 2 nd (de_if (dt_cmp op_ltQ (de_var 1) (de_callB cr_lenQ rfl h_len (by decide +kernel) (da_cons (de_var 0) da_nil)) (nomark _)) (de_ix (de_var 0) (de_var 1)) (de_int)))
    (dss_one (ds_ret (de_fresh (df_lst (da_cons (de_op op_mulQ (de_callB cr_absQ rfl h_abs (by decide +kernel) (da_cons (de_var 2) da_nil)) (de_callTy cr_intQ rfl h_int (by decide +kernel) (da_cons (de_cmp op_geQ (de_callB cr_absQ rfl h_abs (by decide +kernel) (da_cons (de_var 2) da_nil)) (de_op op_powQ (de_int) (de_int)) (nomark _)) da_nil))) (da_cons (de_op op_addQ (de_op op_addQ (de_op op_modQ (de_callTy cr_intQ rfl h_int (by decide +kernel) (da_cons (de_var 2) da_nil)) (de_int)) (de_op op_mulQ (de_int) (de_var 1))) (de_int)) (da_cons (de_int) da_nil))))))))
/-! ### _law_take -/
abbrev s_law_take : Stmt := topS 27
abbrev N_law_take : List Str := ["tin", "below", "drawn", "once", "broad", "twice"]
theorem sc_law_take : FnScope N_law_take ["tin", "below"] (defScope s_law_take) := ⟨rfl, rfl, rfl, by decide +kernel, rfl, by decide +kernel, by decide +kernel⟩
def b_law_take : G := (sSeq (sIf (dB (dOp gtD (dTin 0 0) (dC (.int 0)))) (sSeq (sSet 2 (dOp modD (dCB intD (aCons (dTin 0 0) aNil)) (dVar 1)))
    (sSeq (sTin 0 0 (dOp fdivD (dTin 0 0) (dVar 1)))
    (sRet (dVar 2)))) sNil)
    (sSeq (sTin 0 2 (dOp addD (dTin 0 2) (dC (.int 1))))
    (sSeq (sSet 3 (dOp modD (dCB intD (aCons (dOp mulD (dOp addD (dTin 0 1) (dOp mulD (dC (.int 48271)) (dTin 0 2))) (dOp addD (dC (.int 39373)) (dTin 0 2))) aNil)) (dC (.int 2147483647))))
    (sSeq (sSet 4 (dOp addD (dOp modD (dCB intD (aCons (dVar 3) aNil)) (dC (.int 40009))) (dC (.int 7))))
    (sSeq (sSet 5 (dOp modD (dCB intD (aCons (dOp mulD (dOp addD (dOp addD (dVar 3) (dTin 0 2)) (dOp fdivD (dTin 0 1) (dC (.int 1000003)))) (dVar 4)) aNil)) (dC (.int 2147483629))))
    (sRet (dOp modD (dCB intD (aCons (dOp fdivD (dOp modD (dCB intD (aCons (dOp addD (dOp mulD (dVar 5) (dC (.int 48271))) (dVar 3)) aNil)) (dC (.int 2147483587))) (dC (.int 64))) aNil)) (dVar 1))))))))
def m_law_take : List D → M D := runG b_law_take 2 6
theorem ok_law_take {f : Addr} {fd : FuncData} (F : Fun K "_law_take" "_law_take" s_law_take f fd) (hx : mg "_law_take" = some (.ref f)) (hb : Binds K fd ["tin", "below"] []) (h_int : mg "int" = none) : Fn P w K mg base "_law_take" 1 2 m_law_take :=
  fn_mk (N := N_law_take) F sc_law_take hx hb rfl fun cdv A outer s H E hr =>
    have nd := sc_law_take.nd; have hu : (A.deeper _).units + 200 < cLine := hu200 hr; have tk := tkB P w K mg base N_law_take "_law_take" (defScope s_law_take) f cdv A outer s H E; have hp := hpB P w K mg base N_law_take "_law_take" (defScope s_law_take) f cdv A outer s H E
    (dss_cons (ds_if (dt_cmp op_gtQ (de_tin 0 0 (by decide) rfl) (de_int) (nomark _)) (dss_cons (ds_set 2 nd (de_op op_modQ (de_callTy cr_intQ rfl h_int (by decide +kernel) (da_cons (de_tin 0 0 (by decide) rfl) da_nil)) (de_var 1)))
    (dss_cons (ds_tin 0 0 (by decide) rfl (de_op op_fdivQ (de_tin 0 0 (by decide) rfl) (de_var 1)))
    (dss_one (ds_ret (de_var 2))))) dss_nil)
    (dss_cons (ds_tin 0 2 (by decide) rfl (de_op op_addQ (de_tin 0 2 (by decide) rfl) (de_int)))
    (dss_cons (ds_set 3 nd (de_op op_modQ (de_callTy cr_intQ rfl h_int (by decide +kernel) (da_cons (de_op op_mulQ (de_op op_addQ (de_tin 0 1 (by decide) rfl) (de_op op_mulQ (de_int) (de_tin 0 2 (by decide) rfl))) (de_op op_addQ (de_int) (de_tin 0 2 (by decide) rfl))) da_nil)) (de_int)))
    (dss_cons (ds_set 4 nd (de_op op_addQ (de_op op_modQ (de_callTy cr_intQ rfl h_int (by decide +kernel) (da_cons (de_var 3) da_nil)) (de_int)) (de_int)))
    (dss_cons (ds_set 5 nd (de_op op_modQ (de_callTy cr_intQ rfl h_int (by decide +kernel) (da_cons (de_op op_mulQ (de_op op_addQ (de_op op_addQ (de_var 3) (de_tin 0 2 (by decide) rfl)) (de_op op_fdivQ (de_tin 0 1 (by decide) rfl) (de_int))) (de_var 4)) da_nil)) (de_int)))
    (dss_one (ds_ret (de_op op_modQ (de_callTy cr_intQ rfl h_int (by decide +kernel) (da_cons (de_op op_fdivQ (de_op op_modQ (de_callTy cr_intQ rfl h_int (by decide +kernel) (da_cons (de_op op_addQ (de_op op_mulQ (de_var 5) (de_int)) (de_var 3)) da_nil)) (de_int)) (de_int)) da_nil)) (de_var 1)))))))))
/-! ### _law_cells -/
abbrev s_law_cells : Stmt := topS 28
abbrev N_law_cells : List Str := ["script", "most", "cells", "k", "cell", "spot"]
theorem sc_law_cells : FnScope N_law_cells ["script", "most"] (defScope s_law_cells) := ⟨rfl, rfl, rfl, by decide +kernel, rfl, by decide +kernel, by decide +kernel⟩
def b_law_cells : G := (sSeq (sOwn 2 (fOr (fItems (dSlice (dVar 0) pNone (pSome (dVar 1)))) (fLst (aCons (dC (.int 0)) aNil))))
    (sSeq (sFor (DL.iEnum (dSlice (dVar 0) (pSome (dVar 1)) (pSome (dC (.int 63))))) (gT 2 (gsC (gN 3) (gsC (gN 4) gsN))) (sSeq (sSet 5 (dOp modD (dCB intD (aCons (dVar 3) aNil)) (dVar 1)))
    (ownAt 2 (sSetI 2 (dVar 5) (dOp addD (dOp ixD (dTop 2) (dVar 5)) (dOp mulD (dVar 4) (dOp addD (dVar 3) (dC (.int 2)))))))))
    (sFrz 2 (sRet (dVar 2)))))
def m_law_cells : List D → M D := runG b_law_cells 2 6
theorem ok_law_cells {f : Addr} {fd : FuncData} (F : Fun K "_law_cells" "_law_cells" s_law_cells f fd) (hx : mg "_law_cells" = some (.ref f)) (hb : Binds K fd ["script", "most"] []) (h_enumerate : mg "enumerate" = none) (h_int : mg "int" = none) (h_list : mg "list" = none) : Fn P w K mg base "_law_cells" 1 2 m_law_cells :=
  fn_mk (N := N_law_cells) F sc_law_cells hx hb rfl fun cdv A outer s H E hr =>
    have nd := sc_law_cells.nd; have hu : (A.deeper _).units + 200 < cLine := hu200 hr; have tk := tkB P w K mg base N_law_cells "_law_cells" (defScope s_law_cells) f cdv A outer s H E; have hp := hpB P w K mg base N_law_cells "_law_cells" (defScope s_law_cells) f cdv A outer s H E
    (dss_cons (ds_own 2 nd (df_or (df_listOf rfl h_list (de_slice (de_var 0) dp_none (dp_some (de_var 1)))) (df_lst (da_cons (de_int) da_nil))))
    (dss_cons (ds_for hp rfl (di_enum rfl h_enumerate (de_slice (de_var 0) (dp_some (de_var 1)) (dp_some (de_int)))) (dg_tup rfl (dgs_cons (dg_name 3 nd) (dgs_cons (dg_name 4 nd) dgs_nil))) (dss_cons (ds_set 5 nd (de_op op_modQ (de_callTy cr_intQ rfl h_int (by decide +kernel) (da_cons (de_var 3) da_nil)) (de_var 1)))
    (dss_one (ds_setI 2 (de_op op_addQ (de_ix (de_top 2) (de_var 5)) (de_op op_mulQ (de_var 4) (de_op op_addQ (de_var 3) (de_int)))) (de_var 5)))))
    (dss_one (ds_frz 2 (ds_ret (de_var 2))))))
/-! ### _law_same -/
abbrev s_law_same : Stmt := topS 29
abbrev N_law_same : List Str := ["got", "goal", "mine", "own"]
theorem sc_law_same : FnScope N_law_same ["got", "goal"] (defScope s_law_same) := ⟨rfl, rfl, rfl, by decide +kernel, rfl, by decide +kernel, by decide +kernel⟩
def b_law_same (rec : List D → M D) : G := (sSeq (sIf (dB (dIsi2 .lst .tup (dVar 1))) (sSeq (sIf (bOr (dB (dOp neD (dIsi .lst (dVar 0)) (dIsi .lst (dVar 1)))) (dB (dOp neD (dIsi .tup (dVar 0)) (dIsi .tup (dVar 1))))) (sRet (dC (.bl false))) sNil)
    (sRet (dAnd (dOp eqD (dCB lenD (aCons (dVar 0) aNil)) (dCB lenD (aCons (dVar 1) aNil))) (dCB allD (aCons (dOf (fComp (DL.iZipA (dVar 0) (dVar 1)) [2, 3] (gT 2 (gsC (gN 2) (gsC (gN 3) gsN))) bYes (dCall 2 rec (aCons (dVar 2) (aCons (dVar 3) aNil))))) aNil))))) sNil)
    (sSeq (sIf (bOr (dB (dOp isND (dVar 1) (dC .non))) (dB (dIsi2 .bl .str (dVar 1)))) (sRet (dAnd (dOp eqD (dVar 0) (dVar 1)) (dAnd (dOp eqD (dIsi .bl (dVar 0)) (dIsi .bl (dVar 1))) (dOp eqD (dOp isND (dVar 0) (dC .non)) (dOp isND (dVar 1) (dC .non)))))) sNil)
    (sRet (dAnd (dIsi .int (dVar 0)) (dAnd (dNot (dIsi .bl (dVar 0))) (dOp eqD (dVar 0) (dVar 1)))))))
def m_law_same : Nat → List D → M D
  | 0 => fun _ => M.no
  | n + 1 => runG (b_law_same (m_law_same n)) 2 4
theorem ok_law_same {f : Addr} {fd : FuncData} (F : Fun K "_law_same" "_law_same" s_law_same f fd) (hx : mg "_law_same" = some (.ref f)) (hb : Binds K fd ["got", "goal"] []) (h_isinstance : mg "isinstance" = none) (h_bool : mg "bool" = none) (h_int : mg "int" = none) (h_str : mg "str" = none) (h_list : mg "list" = none) (h_tuple : mg "tuple" = none) (h_all : mg "all" = none) (h_zip : mg "zip" = none) (h_len : mg "len" = none) : ∀ n : Nat, Fn P w K mg base "_law_same" (1 + n) 2 (m_law_same n)
  | 0 => fn_zero F hx hb rfl
  | n + 1 => have F_law_same := ok_law_same F hx hb h_isinstance h_bool h_int h_str h_list h_tuple h_all h_zip h_len n; fn_mk (N := N_law_same) F sc_law_same hx hb rfl fun cdv A outer s H E hr =>
    have nd := sc_law_same.nd; have hu : (A.deeper _).units + 200 < cLine := hu200 hr; have tk := tkB P w K mg base N_law_same "_law_same" (defScope s_law_same) f cdv A outer s H E; have hp := hpB P w K mg base N_law_same "_law_same" (defScope s_law_same) f cdv A outer s H E
    (dss_cons (ds_if (dt_val (de_isi2 .lst .tup rfl h_isinstance (de_var 1) (pe_bltn (v := .ty "list") rfl h_list (by decide +kernel) rfl) (pe_bltn (v := .ty "tuple") rfl h_tuple (by decide +kernel) rfl))) (dss_cons (ds_if (PW.pt (dw_or (dt_cmp (op_neQ hu) (de_isi .lst rfl h_isinstance (de_var 0) (pe_bltn (v := .ty "list") rfl h_list (by decide +kernel) rfl)) (de_isi .lst rfl h_isinstance (de_var 1) (pe_bltn (v := .ty "list") rfl h_list (by decide +kernel) rfl)) (nomark _)) (dw_or1 (dt_cmp (op_neQ hu) (de_isi .tup rfl h_isinstance (de_var 0) (pe_bltn (v := .ty "tuple") rfl h_tuple (by decide +kernel) rfl)) (de_isi .tup rfl h_isinstance (de_var 1) (pe_bltn (v := .ty "tuple") rfl h_tuple (by decide +kernel) rfl)) (nomark _))))) (dss_one (ds_ret (de_bl))) dss_nil)
    (dss_one (ds_ret (de_and (de_cmp (op_eqQ hu) (de_callB cr_lenQ rfl h_len (by decide +kernel) (da_cons (de_var 0) da_nil)) (de_callB cr_lenQ rfl h_len (by decide +kernel) (da_cons (de_var 1) da_nil)) (nomark _)) (de_one (de_callB (cr_allQ rfl) rfl h_all (by decide +kernel) (da_cons (de_fresh (df_comp (own := [("mine", 2), ("own", 3)]) rfl nd (di_zipA rfl h_zip (de_var 0) (de_var 1)) (blkOk_by (N := N_law_same) (sc := (defScope s_law_same)) (by decide +kernel)) (by decide) (fun _ _ _ _ _ => (dg_tup rfl (dgs_cons (dg_name 2 nd) (dgs_cons (dg_name 3 nd) dgs_nil)))) (fun _ _ _ _ _ => have tk : ∀ {X : Cx}, Takes X noX := takes0; dts_nil) (fun _ _ _ _ _ => have tk : ∀ {X : Cx}, Takes X noX := takes0; (de_call F_law_same (hr.mono (by first | decide | exact Nat.le_refl _ | omega)) rfl tk (da_cons (de_var 2) (da_cons (de_var 3) da_nil)))))) da_nil))))))) dss_nil)
    (dss_cons (ds_if (PW.pt (dw_or (dt_cmp op_isQ (de_var 1) (de_non) (nomark _)) (dw_or1 (dt_val (de_isi2 .bl .str rfl h_isinstance (de_var 1) (pe_bltn (v := .ty "bool") rfl h_bool (by decide +kernel) rfl) (pe_bltn (v := .ty "str") rfl h_str (by decide +kernel) rfl)))))) (dss_one (ds_ret (de_and (de_cmp (op_eqQ hu) (de_var 0) (de_var 1) (nomark _)) (de_and (de_cmp (op_eqQ hu) (de_isi .bl rfl h_isinstance (de_var 0) (pe_bltn (v := .ty "bool") rfl h_bool (by decide +kernel) rfl)) (de_isi .bl rfl h_isinstance (de_var 1) (pe_bltn (v := .ty "bool") rfl h_bool (by decide +kernel) rfl)) (nomark _)) (de_one (de_cmp (op_eqQ hu) (de_cmp op_isQ (de_var 0) (de_non) (nomark _)) (de_cmp op_isQ (de_var 1) (de_non) (nomark _)) (nomark _))))))) dss_nil)
    (dss_one (ds_ret (de_and (de_isi .int rfl h_isinstance (de_var 0) (pe_bltn (v := .ty "int") rfl h_int (by decide +kernel) rfl)) (de_and (de_not (de_isi .bl rfl h_isinstance (de_var 0) (pe_bltn (v := .ty "bool") rfl h_bool (by decide +kernel) rfl))) (de_one (de_cmp (op_eqQ hu) (de_var 0) (de_var 1) (nomark _)))))))))
/-! ### _law_lists -/
abbrev s_law_lists : Stmt := topS 30
abbrev N_law_lists : List Str := ["matter", "own"]
theorem sc_law_lists : FnScope N_law_lists ["matter"] (defScope s_law_lists) := ⟨rfl, rfl, rfl, by decide +kernel, rfl, by decide +kernel, by decide +kernel⟩
def b_law_lists (rec : List D → M D) : G := (sRet (dIf (dB (dIsi2 .lst .tup (dVar 0))) (dOf (fComp (iSeq (dVar 0)) [1] (gN 1) bYes (dCall 1 rec (aCons (dVar 1) aNil)))) (dVar 0)))
def m_law_lists : Nat → List D → M D
  | 0 => fun _ => M.no
  | n + 1 => runG (b_law_lists (m_law_lists n)) 1 2
theorem ok_law_lists {f : Addr} {fd : FuncData} (F : Fun K "_law_lists" "_law_lists" s_law_lists f fd) (hx : mg "_law_lists" = some (.ref f)) (hb : Binds K fd ["matter"] []) (h_isinstance : mg "isinstance" = none) (h_list : mg "list" = none) (h_tuple : mg "tuple" = none) : ∀ n : Nat, Fn P w K mg base "_law_lists" (1 + n) 1 (m_law_lists n)
  | 0 => fn_zero F hx hb rfl
  | n + 1 => have F_law_lists := ok_law_lists F hx hb h_isinstance h_list h_tuple n; fn_mk (N := N_law_lists) F sc_law_lists hx hb rfl fun cdv A outer s H E hr =>
    have nd := sc_law_lists.nd; have hu : (A.deeper _).units + 200 < cLine := hu200 hr; have tk := tkB P w K mg base N_law_lists "_law_lists" (defScope s_law_lists) f cdv A outer s H E; have hp := hpB P w K mg base N_law_lists "_law_lists" (defScope s_law_lists) f cdv A outer s H E
    (dss_one (ds_ret (de_if (dt_val (de_isi2 .lst .tup rfl h_isinstance (de_var 0) (pe_bltn (v := .ty "list") rfl h_list (by decide +kernel) rfl) (pe_bltn (v := .ty "tuple") rfl h_tuple (by decide +kernel) rfl))) (de_fresh (df_comp (own := [("own", 1)]) rfl nd (di_seq (de_var 0)) (blkOk_by (N := N_law_lists) (sc := (defScope s_law_lists)) (by decide +kernel)) (by decide) (fun _ _ _ _ _ => (dg_name 1 nd)) (fun _ _ _ _ _ => have tk : ∀ {X : Cx}, Takes X noX := takes0; dts_nil) (fun _ _ _ _ _ => have tk : ∀ {X : Cx}, Takes X noX := takes0; (de_call F_law_lists (hr.mono (by first | decide | exact Nat.le_refl _ | omega)) rfl tk (da_cons (de_var 1) da_nil))))) (de_var 0))))
/-! ### _law_row -/
abbrev s_law_row : Stmt := topS 31
abbrev N_law_row : List Str := ["tin", "wide", "many", "lap"]
theorem sc_law_row : FnScope N_law_row ["tin", "wide", "many"] (defScope s_law_row) := ⟨rfl, rfl, rfl, by decide +kernel, rfl, by decide +kernel, by decide +kernel⟩
def b_law_row : G := (sRet (dCB tupleD (aCons (dOf (fComp (iR1 (dVar 2)) [3] (gN 3) bYes (dOp addD (dC (.int 1)) (dCall 2 (m_law_take) (aCons (dVar 0) (aCons (dVar 1) aNil)))))) aNil)))
def m_law_row : List D → M D := runG b_law_row 3 4
theorem ok_law_row {f : Addr} {fd : FuncData} (F : Fun K "_law_row" "_law_row" s_law_row f fd) (hx : mg "_law_row" = some (.ref f)) (hb : Binds K fd ["tin", "wide", "many"] []) (h_tuple : mg "tuple" = none) (h_range : mg "range" = none) (F_law_take : Fn P w K mg base "_law_take" 1 2 m_law_take) : Fn P w K mg base "_law_row" 2 3 m_law_row :=
  fn_mk (N := N_law_row) F sc_law_row hx hb rfl fun cdv A outer s H E hr =>
    have nd := sc_law_row.nd; have hu : (A.deeper _).units + 200 < cLine := hu200 hr; have tk := tkB P w K mg base N_law_row "_law_row" (defScope s_law_row) f cdv A outer s H E; have hp := hpB P w K mg base N_law_row "_law_row" (defScope s_law_row) f cdv A outer s H E
    (dss_one (ds_ret (de_callTy cr_tupleQ rfl h_tuple (by decide +kernel) (da_cons (de_fresh (df_comp (own := [("lap", 3)]) rfl nd (di_range1 rfl h_range (de_var 2)) (blkOk_by (N := N_law_row) (sc := (defScope s_law_row)) (by decide +kernel)) (by decide) (fun _ _ _ _ _ => (dg_name 3 nd)) (fun _ _ _ _ _ => have tk : ∀ {X : Cx}, Takes X noX := takes0; dts_nil) (fun _ _ _ _ _ => have tk : ∀ {X : Cx}, Takes X noX := takes0; (de_op op_addQ (de_int) (de_call F_law_take (hr.mono (by first | decide | exact Nat.le_refl _ | omega)) rfl tk (da_cons (de_var 0) (da_cons (de_var 1) da_nil))))))) da_nil))))
/-! ### _law_machine -/
abbrev s_law_machine : Stmt := topS 32
abbrev N_law_machine : List Str := ["tin", "wide", "many", "rows", "state", "own"]
theorem sc_law_machine : FnScope N_law_machine ["tin", "wide"] (defScope s_law_machine) := ⟨rfl, rfl, rfl, by decide +kernel, rfl, by decide +kernel, by decide +kernel⟩
def b_law_machine : G := (sSeq (sSet 2 (dOp addD (dC (.int 1)) (dCall 2 (m_law_take) (aCons (dVar 0) (aCons (dC (.int 6)) aNil)))))
    (sSeq (sSet 3 (dCB tupleD (aCons (dOf (fComp (iR1 (dVar 2)) [4] (gN 4) bYes (dCB tupleD (aCons (dOf (fComp (iR1 (dVar 1)) [5] (gN 5) bYes (dCall 2 (m_law_take) (aCons (dVar 0) (aCons (dVar 2) aNil))))) aNil)))) aNil)))
    (sRet (dTup (aCons (dVar 3) (aCons (dCB tupleD (aCons (dOf (fComp (iR1 (dVar 2)) [4] (gN 4) (dB (dOp eqD (dCall 2 (m_law_take) (aCons (dVar 0) (aCons (dC (.int 2)) aNil))) (dC (.int 0)))) (dVar 4))) aNil)) aNil))))))
def m_law_machine : List D → M D := runG b_law_machine 2 6
theorem ok_law_machine {f : Addr} {fd : FuncData} (F : Fun K "_law_machine" "_law_machine" s_law_machine f fd) (hx : mg "_law_machine" = some (.ref f)) (hb : Binds K fd ["tin", "wide"] []) (h_tuple : mg "tuple" = none) (h_range : mg "range" = none) (F_law_take : Fn P w K mg base "_law_take" 1 2 m_law_take) : Fn P w K mg base "_law_machine" 2 2 m_law_machine :=
  fn_mk (N := N_law_machine) F sc_law_machine hx hb rfl fun cdv A outer s H E hr =>
    have nd := sc_law_machine.nd; have hu : (A.deeper _).units + 200 < cLine := hu200 hr; have tk := tkB P w K mg base N_law_machine "_law_machine" (defScope s_law_machine) f cdv A outer s H E; have hp := hpB P w K mg base N_law_machine "_law_machine" (defScope s_law_machine) f cdv A outer s H E
    (dss_cons (ds_set 2 nd (de_op op_addQ (de_int) (de_call F_law_take (hr.mono (by first | decide | exact Nat.le_refl _ | omega)) rfl tk (da_cons (de_var 0) (da_cons (de_int) da_nil)))))
    (dss_cons (ds_set 3 nd (de_callTy cr_tupleQ rfl h_tuple (by decide +kernel) (da_cons (de_fresh (df_comp (own := [("state", 4)]) rfl nd (di_range1 rfl h_range (de_var 2)) (blkOk_by (N := N_law_machine) (sc := (defScope s_law_machine)) (by decide +kernel)) (by decide) (fun _ _ _ _ _ => (dg_name 4 nd)) (fun _ _ _ _ _ => have tk : ∀ {X : Cx}, Takes X noX := takes0; dts_nil) (fun _ _ _ _ _ => have tk : ∀ {X : Cx}, Takes X noX := takes0; (de_callTy cr_tupleQ rfl h_tuple (by decide +kernel) (da_cons (de_fresh (df_comp (own := [("own", 5)]) rfl nd (di_range1 rfl h_range (de_var 1)) (blkOk_by (N := N_law_machine) (sc := (relS { kind := PySem.ScopeKind.function, names := [(PySem.Str.ofString ".0", PySem.NameKind.local), (PySem.Str.ofString "state", PySem.NameKind.local), (PySem.Str.ofString "tuple", PySem.NameKind.globalImplicit), (PySem.Str.ofString "range", PySem.NameKind.globalImplicit), (PySem.Str.ofString "many", PySem.NameKind.free), (PySem.Str.ofString "tin", PySem.NameKind.free), (PySem.Str.ofString "wide", PySem.NameKind.free)], isGenerator := false, isCoroutine := false, more := [] : PySem.Scope } (defScope s_law_machine))) (by decide +kernel)) (by decide) (fun _ _ _ _ _ => (dg_name 5 nd)) (fun _ _ _ _ _ => have tk : ∀ {X : Cx}, Takes X noX := takes0; dts_nil) (fun _ _ _ _ _ => have tk : ∀ {X : Cx}, Takes X noX := takes0; (de_call F_law_take (hr.mono (by first | decide | exact Nat.le_refl _ | omega)) rfl tk (da_cons (de_var 0) (da_cons (de_var 2) da_nil)))))) da_nil))))) da_nil)))
    (dss_one (ds_ret (de_tup (da_cons (de_var 3) (da_cons (de_callTy cr_tupleQ rfl h_tuple (by decide +kernel) (da_cons (de_fresh (df_comp (own := [("state", 4)]) rfl nd (di_range1 rfl h_range (de_var 2)) (blkOk_by (N := N_law_machine) (sc := (defScope s_law_machine)) (by decide +kernel)) (by decide) (fun _ _ _ _ _ => (dg_name 4 nd)) (fun _ _ _ _ _ => have tk : ∀ {X : Cx}, Takes X noX := takes0; (dts_one (dt_cmp (op_eqQ hu) (de_call F_law_take (hr.mono (by first | decide | exact Nat.le_refl _ | omega)) rfl tk (da_cons (de_var 0) (da_cons (de_int) da_nil))) (de_int) (nomark _)))) (fun _ _ _ _ _ => have tk : ∀ {X : Cx}, Takes X noX := takes0; (de_var 4)))) da_nil)) da_nil)))))))
/-! ### _law_run_of -/
abbrev s_law_run_of : Stmt := topS 33
abbrev N_law_run_of : List Str := ["machine", "text", "state", "letter"]
theorem sc_law_run_of : FnScope N_law_run_of ["machine", "text"] (defScope s_law_run_of) := ⟨rfl, rfl, rfl, by decide +kernel, rfl, by decide +kernel, by decide +kernel⟩
def b_law_run_of : G := (sSeq (sSet 2 (dC (.int 0)))
    (sSeq (sFor (iSeq (dVar 1)) (gN 3) (sSet 2 (dOp ixD (dOp ixD (dOp ixD (dVar 0) (dC (.int 0))) (dVar 2)) (dOp subD (dVar 3) (dC (.int 1))))))
    (sRet (dVar 2))))
def m_law_run_of : List D → M D := runG b_law_run_of 2 4
theorem ok_law_run_of {f : Addr} {fd : FuncData} (F : Fun K "_law_run_of" "_law_run_of" s_law_run_of f fd) (hx : mg "_law_run_of" = some (.ref f)) (hb : Binds K fd ["machine", "text"] []) : Fn P w K mg base "_law_run_of" 1 2 m_law_run_of :=
  fn_mk (N := N_law_run_of) F sc_law_run_of hx hb rfl fun cdv A outer s H E hr =>
    have nd := sc_law_run_of.nd; have hu : (A.deeper _).units + 200 < cLine := hu200 hr; have tk := tkB P w K mg base N_law_run_of "_law_run_of" (defScope s_law_run_of) f cdv A outer s H E; have hp := hpB P w K mg base N_law_run_of "_law_run_of" (defScope s_law_run_of) f cdv A outer s H E
    (dss_cons (ds_set 2 nd (de_int))
    (dss_cons (ds_for hp rfl (di_seq (de_var 1)) (dg_name 3 nd) (dss_one (ds_set 2 nd (de_ix (de_ix (de_ix (de_var 0) (de_int)) (de_var 2)) (de_op op_subQ (de_var 3) (de_int))))))
    (dss_one (ds_ret (de_var 2)))))
/-! ### _law_least_of -/
abbrev s_law_least_of : Stmt := topS 34
abbrev N_law_least_of : List Str := ["machine", "rows", "ends", "kinds", "lap", "row", "goal", "keys", "order", "line", "found", "turn", "same", "state", "key", "place", "own"]
theorem sc_law_least_of : FnScope N_law_least_of ["machine"] (defScope s_law_least_of) := ⟨rfl, rfl, rfl, by decide +kernel, rfl, by decide +kernel, by decide +kernel⟩
def b_law_least_of : G := (sSeq (sAsg (dVar 0) (gT 2 (gsC (gN 1) (gsC (gN 2) gsN))))
    (sSeq (sSet 3 (dOf (fComp (iR1 (dCB lenD (aCons (dVar 1) aNil))) [13] (gN 13) bYes (dCB intD (aCons (dOp inD (dVar 13) (dVar 2)) aNil)))))
    (sSeq (sFor (iR1 (dCB lenD (aCons (dVar 1) aNil))) (gN 4) (sSeq (sSetF 7 (fComp (DL.iEnum (dVar 1)) [13, 5] (gT 2 (gsC (gN 13) (gsC (gN 5) gsN))) bYes (dTup (aCons (dOp ixD (dVar 3) (dVar 13)) (aCons (dCB tupleD (aCons (dOf (fComp (iSeq (dVar 5)) [6] (gN 6) bYes (dOp ixD (dVar 3) (dVar 6)))) aNil)) aNil)))))
    (sSeq (sSet 8 (dOf (fSortSet (dVar 7))))
    (sSet 3 (dOf (fComp (iSeq (dVar 7)) [14] (gN 14) bYes (dIndex (dVar 8) (dVar 14))))))))
    (sSeq (sMany [9, 10] (xOwn (fLst (aCons (dC (.int 0)) aNil)) (xOwn (fLst aNil) xNil)))
    (sSeq (sFor (iR1 (dCB lenD (aCons (dVar 1) aNil))) (gN 11) (sIf (dB (dOp ltD (dVar 11) (dCB lenD (aCons (dTop 9) aNil)))) (sSeq (sOwn 5 (fLst aNil))
    (sSeq (sFor (iSeq (dOp ixD (dVar 1) (dOp ixD (dTop 9) (dVar 11)))) (gN 6) (sSeq (sSetF 12 (fThaw 9 (fComp (DL.iEnum (dVar 9)) [15, 16] (gT 2 (gsC (gN 15) (gsC (gN 16) gsN))) (dB (dOp eqD (dOp ixD (dVar 3) (dVar 16)) (dOp ixD (dVar 3) (dVar 6)))) (dVar 15))))
    (sSeq (sIf (dB (dOp eqD (dVar 12) (dOf (fLst aNil)))) (ownAt 9 (sApp 9 (dVar 6))) sNil)
    (ownAt 5 (sApp 5 (dIf (dB (dOp neD (dVar 12) (dOf (fLst aNil)))) (dOp ixD (dVar 12) (dC (.int 0))) (dOp subD (dCB lenD (aCons (dTop 9) aNil)) (dC (.int 1)))))))))
    (ownAt 10 (sApp 10 (dCB tupleD (aCons (dTop 5) aNil)))))) sNil))
    (sFrz 9 (sRet (dTup (aCons (dCB tupleD (aCons (dTop 10) aNil)) (aCons (dCB tupleD (aCons (dOf (fComp (DL.iEnum (dVar 9)) [15, 16] (gT 2 (gsC (gN 15) (gsC (gN 16) gsN))) (dB (dOp inD (dVar 16) (dVar 2))) (dVar 15))) aNil)) aNil))))))))))
def m_law_least_of : List D → M D := runG b_law_least_of 1 17
theorem ok_law_least_of {f : Addr} {fd : FuncData} (F : Fun K "_law_least_of" "_law_least_of" s_law_least_of f fd) (hx : mg "_law_least_of" = some (.ref f)) (hb : Binds K fd ["machine"] []) (h_tuple : mg "tuple" = none) (h_enumerate : mg "enumerate" = none) (h_range : mg "range" = none) (h_len : mg "len" = none) (h_sorted : mg "sorted" = none) (h_set : mg "set" = none) (h_int : mg "int" = none) : Fn P w K mg base "_law_least_of" 1 1 m_law_least_of :=
  fn_mk (N := N_law_least_of) F sc_law_least_of hx hb rfl fun cdv A outer s H E hr =>
    have nd := sc_law_least_of.nd; have hu : (A.deeper _).units + 200 < cLine := hu200 hr; have tk := tkB P w K mg base N_law_least_of "_law_least_of" (defScope s_law_least_of) f cdv A outer s H E; have hp := hpB P w K mg base N_law_least_of "_law_least_of" (defScope s_law_least_of) f cdv A outer s H E
    (dss_cons (ds_asg (de_var 0) (dg_tup rfl (dgs_cons (dg_name 1 nd) (dgs_cons (dg_name 2 nd) dgs_nil))))
    (dss_cons (ds_set 3 nd (de_fresh (df_comp (own := [("state", 13)]) rfl nd (di_range1 rfl h_range (de_callB cr_lenQ rfl h_len (by decide +kernel) (da_cons (de_var 1) da_nil))) (blkOk_by (N := N_law_least_of) (sc := (defScope s_law_least_of)) (by decide +kernel)) (by decide) (fun _ _ _ _ _ => (dg_name 13 nd)) (fun _ _ _ _ _ => have tk : ∀ {X : Cx}, Takes X noX := takes0; dts_nil) (fun _ _ _ _ _ => have tk : ∀ {X : Cx}, Takes X noX := takes0; (de_callTy cr_intQ rfl h_int (by decide +kernel) (da_cons (de_cmp (op_inQ hu) (de_var 13) (de_var 2) rfl) da_nil))))))
    (dss_cons (ds_for hp rfl (di_range1 rfl h_range (de_callB cr_lenQ rfl h_len (by decide +kernel) (da_cons (de_var 1) da_nil))) (dg_name 4 nd) (dss_cons (ds_setLc 7 nd (own := [("state", 13), ("row", 5)]) rfl (di_enum rfl h_enumerate (de_var 1)) (blkOk_by (N := N_law_least_of) (sc := (defScope s_law_least_of)) (by decide +kernel)) (by decide) (fun _ _ _ _ _ => (dg_tup rfl (dgs_cons (dg_name 13 nd) (dgs_cons (dg_name 5 nd) dgs_nil)))) (fun _ _ _ _ _ => have tk : ∀ {X : Cx}, Takes X noX := takes0; dts_nil) (fun _ _ _ _ _ => have tk : ∀ {X : Cx}, Takes X noX := takes0; (de_tup (da_cons (de_ix (de_var 3) (de_var 13)) (da_cons (de_callTy cr_tupleQ rfl h_tuple (by decide +kernel) (da_cons (de_fresh (df_comp (own := [("goal", 6)]) rfl nd (di_seq (de_var 5)) (blkOk_by (N := N_law_least_of) (sc := (relS { kind := PySem.ScopeKind.function, names := [(PySem.Str.ofString ".0", PySem.NameKind.local), (PySem.Str.ofString "state", PySem.NameKind.local), (PySem.Str.ofString "row", PySem.NameKind.local), (PySem.Str.ofString "tuple", PySem.NameKind.globalImplicit), (PySem.Str.ofString "kinds", PySem.NameKind.free)], isGenerator := false, isCoroutine := false, more := [] : PySem.Scope } (defScope s_law_least_of))) (by decide +kernel)) (by decide) (fun _ _ _ _ _ => (dg_name 6 nd)) (fun _ _ _ _ _ => have tk : ∀ {X : Cx}, Takes X noX := takes0; dts_nil) (fun _ _ _ _ _ => have tk : ∀ {X : Cx}, Takes X noX := takes0; (de_ix (de_var 3) (de_var 6))))) da_nil)) da_nil)))))
    (dss_cons (ds_set 8 nd (de_fresh (df_sortSet rfl hu rfl h_sorted rfl h_set (de_var 7))))
    (dss_one (ds_set 3 nd (de_fresh (df_comp (own := [("key", 14)]) rfl nd (di_seq (de_var 7)) (blkOk_by (N := N_law_least_of) (sc := (defScope s_law_least_of)) (by decide +kernel)) (by decide) (fun _ _ _ _ _ => (dg_name 14 nd)) (fun _ _ _ _ _ => have tk : ∀ {X : Cx}, Takes X noX := takes0; dts_nil) (fun _ _ _ _ _ => have tk : ∀ {X : Cx}, Takes X noX := takes0; (de_index hu (de_var 8) (de_var 14))))))))))
    (dss_cons (ds_par (i := 9) (j := 10) rfl nd rfl rfl (by decide) rfl rfl (dx_own (df_lst (da_cons (de_int) da_nil)) (dx_own (df_lst da_nil) dx_nil)) (xOwn_un (xOwn_un xNil_un)) rfl)
    (dss_cons (ds_for hp rfl (di_range1 rfl h_range (de_callB cr_lenQ rfl h_len (by decide +kernel) (da_cons (de_var 1) da_nil))) (dg_name 11 nd) (dss_one (ds_if (dt_cmp op_ltQ (de_var 11) (de_callB cr_lenQ rfl h_len (by decide +kernel) (da_cons (de_top 9) da_nil)) (nomark _)) (dss_cons (ds_own 5 nd (df_lst da_nil))
    (dss_cons (ds_for hp rfl (di_seq (de_ix (de_var 1) (de_ix (de_top 9) (de_var 11)))) (dg_name 6 nd) (dss_cons (ds_setLcT 9 12 nd (own := [("place", 15), ("own", 16)]) rfl (di_enum rfl h_enumerate (de_var 9)) (blkOk_by (N := N_law_least_of) (sc := (defScope s_law_least_of)) (by decide +kernel)) (by decide) (fun _ _ _ _ _ => (dg_tup rfl (dgs_cons (dg_name 15 nd) (dgs_cons (dg_name 16 nd) dgs_nil)))) (fun _ _ _ _ _ => have tk : ∀ {X : Cx}, Takes X noX := takes0; (dts_one (dt_cmp (op_eqQ hu) (de_ix (de_var 3) (de_var 16)) (de_ix (de_var 3) (de_var 6)) (nomark _)))) (fun _ _ _ _ _ => have tk : ∀ {X : Cx}, Takes X noX := takes0; (de_var 15)))
    (dss_cons (ds_if (dt_cmp (op_eqQ hu) (de_var 12) (de_fresh (df_lst da_nil)) (nomark _)) (dss_one (ds_app 9 (de_var 6))) dss_nil)
    (dss_one (ds_app 5 (de_if (dt_cmp (op_neQ hu) (de_var 12) (de_fresh (df_lst da_nil)) (nomark _)) (de_ix (de_var 12) (de_int)) (de_op op_subQ (de_callB cr_lenQ rfl h_len (by decide +kernel) (da_cons (de_top 9) da_nil)) (de_int))))))))
    (dss_one (ds_app 10 (de_callTy cr_tupleQ rfl h_tuple (by decide +kernel) (da_cons (de_top 5) da_nil)))))) dss_nil)))
    (dss_one (ds_frz 9 (ds_ret (de_tup (da_cons (de_callTy cr_tupleQ rfl h_tuple (by decide +kernel) (da_cons (de_top 10) da_nil)) (da_cons (de_callTy cr_tupleQ rfl h_tuple (by decide +kernel) (da_cons (de_fresh (df_comp (own := [("place", 15), ("own", 16)]) rfl nd (di_enum rfl h_enumerate (de_var 9)) (blkOk_by (N := N_law_least_of) (sc := (defScope s_law_least_of)) (by decide +kernel)) (by decide) (fun _ _ _ _ _ => (dg_tup rfl (dgs_cons (dg_name 15 nd) (dgs_cons (dg_name 16 nd) dgs_nil)))) (fun _ _ _ _ _ => have tk : ∀ {X : Cx}, Takes X noX := takes0; (dts_one (dt_cmp (op_inQ hu) (de_var 16) (de_var 2) rfl))) (fun _ _ _ _ _ => have tk : ∀ {X : Cx}, Takes X noX := takes0; (de_var 15)))) da_nil)) da_nil)))))))))))
/-! ### law -/
abbrev s_law : Stmt := topS 35
abbrev N_law : List Str := ["script", "tin", "wide", "one", "extra", "other", "leasts", "got", "line", "found", "seen", "turn", "text", "near", "far", "letter", "pair", "told", "lap", "so", "own", "row", "goal"]
theorem sc_law : FnScope N_law ["script"] (defScope s_law) := ⟨rfl, rfl, rfl, by decide +kernel, rfl, by decide +kernel, by decide +kernel⟩
def f_law : DL.Env → M D := (dCall 2 (m_law_box) (aCons (dCall 2 (m_law_cells) (aCons (dVar 0) (aCons (dC (.int 1)) aNil))) (aCons (dC (.int 0)) aNil)))
def l_0 : G := (sSet 2 (dOp addD (dC (.int 1)) (dCall 2 (m_law_take) (aCons (dVar 1) (aCons (dC (.int 3)) aNil)))))
def l_1 : G := (sSet 3 (dCall 2 (m_law_machine) (aCons (dVar 1) (aCons (dVar 2) aNil))))
def l_2 : G := (sIf (dB (dOp eqD (dCall 2 (m_law_take) (aCons (dVar 1) (aCons (dC (.int 2)) aNil))) (dC (.int 0)))) (sSeq (sSet 4 (dCall 2 (m_law_take) (aCons (dVar 1) (aCons (dCB lenD (aCons (dOp ixD (dVar 3) (dC (.int 0))) aNil)) aNil))))
    (sSeq (sSet 5 (dTup (aCons (dOp addD (dOp ixD (dVar 3) (dC (.int 0))) (dTup (aCons (dOp ixD (dOp ixD (dVar 3) (dC (.int 0))) (dVar 4)) aNil))) (aCons (dOp addD (dOp ixD (dVar 3) (dC (.int 1))) (dIf (dB (dOp inD (dVar 4) (dOp ixD (dVar 3) (dC (.int 1))))) (dTup (aCons (dCB lenD (aCons (dOp ixD (dVar 3) (dC (.int 0))) aNil)) aNil)) (dTup aNil))) aNil))))
    (sSet 5 (dTup (aCons (dCB tupleD (aCons (dOf (fComp (iSeq (dOp ixD (dVar 5) (dC (.int 0)))) [21] (gN 21) bYes (dCB tupleD (aCons (dOf (fComp (iSeq (dVar 21)) [22] (gN 22) bYes (dIf (bAnd (dB (dOp eqD (dVar 22) (dVar 4))) (dB (dOp eqD (dCall 2 (m_law_take) (aCons (dVar 1) (aCons (dC (.int 2)) aNil))) (dC (.int 0))))) (dCB lenD (aCons (dOp ixD (dVar 3) (dC (.int 0))) aNil)) (dVar 22)))) aNil)))) aNil)) (aCons (dOp ixD (dVar 5) (dC (.int 1))) aNil)))))) (sSet 5 (dCall 2 (m_law_machine) (aCons (dVar 1) (aCons (dVar 2) aNil)))))
def l_3 : G := (sSetF 6 (fComp (iSeq (dTup (aCons (dVar 3) (aCons (dVar 5) aNil)))) [20] (gN 20) bYes (dCall 1 (m_law_least_of) (aCons (dVar 20) aNil))))
def l_4 : G := (sSet 7 (dOf (fLst (aCons (dCall 1 (m_is_machine) (aCons (dVar 3) aNil)) (aCons (dCall 1 (m_is_machine) (aCons (dCall 1 (m_law_lists 8) (aCons (dVar 3) aNil)) aNil)) (aCons (dCall 1 (m_least) (aCons (dVar 3) aNil)) (aCons (dCall 1 (m_least) (aCons (dCall 1 (m_law_lists 8) (aCons (dVar 5) aNil)) aNil)) (aCons (dCall 2 (m_alike) (aCons (dVar 3) (aCons (dVar 5) aNil))) aNil))))))))
def l_5 : G := (sIf (bNot (dB (dCall 2 (m_law_same 8) (aCons (dVar 7) (aCons (dOf (fLst (aCons (dC (.bl true)) (aCons (dC (.bl false)) (aCons (dOp ixD (dVar 6) (dC (.int 0))) (aCons (dOp ixD (dVar 6) (dC (.int 1))) (aCons (dOp eqD (dOp ixD (dVar 6) (dC (.int 0))) (dOp ixD (dVar 6) (dC (.int 1)))) aNil))))))) aNil))))) (sRet (dC (.bl false))) sNil)
def l_6 : G := (sMany [8, 9] (xOwn (fLst (aCons (dTup (aCons (dTup aNil) (aCons (dC (.int 0)) (aCons (dC (.int 0)) aNil)))) aNil)) (xVal (dC .non) xNil)))
def l_7 : G := (sOwn 10 (fLst (aCons (dTup (aCons (dC (.int 0)) (aCons (dC (.int 0)) aNil))) aNil)))
def l_8 : G := (sFor (iR1 (dC (.int 60))) (gN 11) (sIf (bAnd (dB (dOp isND (dVar 9) (dC .non))) (dB (dOp ltD (dVar 11) (dCB lenD (aCons (dTop 8) aNil))))) (sSeq (sAsg (dOp ixD (dTop 8) (dVar 11)) (gT 3 (gsC (gN 12) (gsC (gN 13) (gsC (gN 14) gsN)))))
    (sSeq (sIf (dB (dOp neD (dOp inD (dVar 13) (dOp ixD (dVar 3) (dC (.int 1)))) (dOp inD (dVar 14) (dOp ixD (dVar 5) (dC (.int 1)))))) (sSet 9 (dVar 12)) sNil)
    (sFor (iR2 (dC (.int 1)) (dOp addD (dVar 2) (dC (.int 1)))) (gN 15) (sSeq (sSet 16 (dTup (aCons (dOp ixD (dOp ixD (dOp ixD (dVar 3) (dC (.int 0))) (dVar 13)) (dOp subD (dVar 15) (dC (.int 1)))) (aCons (dOp ixD (dOp ixD (dOp ixD (dVar 5) (dC (.int 0))) (dVar 14)) (dOp subD (dVar 15) (dC (.int 1)))) aNil))))
    (sIf (dB (dOp ninD (dVar 16) (dTop 10))) (sSeq (ownAt 10 (sApp 10 (dVar 16)))
    (ownAt 8 (sApp 8 (dOp addD (dTup (aCons (dOp addD (dVar 12) (dTup (aCons (dVar 15) aNil))) aNil)) (dVar 16))))) sNil))))) sNil))
def l_9 : G := (sTry "CanNot" (sSet 17 (dCall 2 (m_parting) (aCons (dVar 3) (aCons (dCall 1 (m_law_lists 8) (aCons (dVar 5) aNil)) aNil)))) (sSet 17 (dC .non)))
def l_10 : G := (sIf (dB (dOp neD (dVar 17) (dVar 9))) (sRet (dC (.bl false))) sNil)
def l_11 : G := (sFor (iR1 (dC (.int 4))) (gN 18) (sSeq (sSet 12 (dCall 3 (m_law_row) (aCons (dVar 1) (aCons (dVar 2) (aCons (dCall 2 (m_law_take) (aCons (dVar 1) (aCons (dC (.int 9)) aNil))) aNil)))))
    (sSeq (sSet 19 (dOp inD (dCall 2 (m_law_run_of) (aCons (dVar 3) (aCons (dVar 12) aNil))) (dOp ixD (dVar 3) (dC (.int 1)))))
    (sIf (bNot (dB (dCall 2 (m_law_same 8) (aCons (dOf (fLst (aCons (dCall 2 (m_takes) (aCons (dVar 3) (aCons (dVar 12) aNil))) (aCons (dCall 2 (m_takes) (aCons (dOp ixD (dVar 6) (dC (.int 0))) (aCons (dCall 1 (m_law_lists 8) (aCons (dVar 12) aNil)) aNil))) (aCons (dCall 2 (m_takes) (aCons (dCall 1 (m_least) (aCons (dVar 3) aNil)) (aCons (dVar 12) aNil))) aNil))))) (aCons (dOp mulD (dOf (fLst (aCons (dVar 19) aNil))) (dC (.int 3))) aNil))))) (sRet (dC (.bl false))) sNil))))
def l_12 : G := (sRet (dOr (dOp isND (dVar 9) (dC .non)) (dOp neD (dCall 2 (m_takes) (aCons (dVar 3) (aCons (dVar 9) aNil))) (dCall 2 (m_takes) (aCons (dVar 5) (aCons (dVar 9) aNil))))))
def b_law : G := (sSeq l_0 (sSeq l_1 (sSeq l_2 (sSeq l_3 (sSeq l_4 (sSeq l_5 (sSeq l_6 (sSeq l_7 (sSeq l_8 (sSeq l_9 (sSeq l_10 (sSeq l_11 l_12))))))))))))
theorem ok_law {f : Addr} {fd : FuncData} (F : Fun K "law" "law" s_law f fd) (h_range : mg "range" = none) (h_len : mg "len" = none) (h_tuple : mg "tuple" = none) (E_CanNot : ErrC K mg "CanNot") (F_law_box : Fn P w K mg base "_law_box" 1 2 m_law_box) (F_law_cells : Fn P w K mg base "_law_cells" 1 2 m_law_cells) (F_takes : Fn P w K mg base "takes" 2 2 m_takes) (F_law_same : Fn P w K mg base "_law_same" 9 2 (m_law_same 8)) (F_least : Fn P w K mg base "least" 4 1 m_least) (F_law_lists : Fn P w K mg base "_law_lists" 9 1 (m_law_lists 8)) (F_law_run_of : Fn P w K mg base "_law_run_of" 1 2 m_law_run_of) (F_law_row : Fn P w K mg base "_law_row" 2 3 m_law_row) (F_law_take : Fn P w K mg base "_law_take" 1 2 m_law_take) (F_parting : Fn P w K mg base "parting" 5 2 m_parting) (F_alike : Fn P w K mg base "alike" 5 2 m_alike) (F_is_machine : Fn P w K mg base "is_machine" 3 1 m_is_machine) (F_law_least_of : Fn P w K mg base "_law_least_of" 1 1 m_law_least_of) (F_law_machine : Fn P w K mg base "_law_machine" 2 2 m_law_machine) : FnOk P w K mg base (L2.CX P w) 10 f fd ["script"] (spL K (lawGood f_law b_law 23)) :=
  law_mk (N := N_law) F sc_law rfl rfl (by intros; first | exact .inl rfl | exact .inr rfl) (by intros; rfl) (by intros; first | exact .inl rfl | exact .inr rfl) fun cdv A outer s H E hr =>
    have nd := sc_law.nd; have hu : (A.deeper _).units + 200 < cLine := hu200 hr; have tk := tkB P w K mg base N_law "law" (defScope s_law) f cdv A outer s H E; have hp := hpB P w K mg base N_law "law" (defScope s_law) f cdv A outer s H E
    ⟨(de_call F_law_box (hr.mono (by first | decide | exact Nat.le_refl _ | omega)) rfl tk (da_cons (de_call F_law_cells (hr.mono (by first | decide | exact Nat.le_refl _ | omega)) rfl tk (da_cons (de_var 0) (da_cons (de_int) da_nil))) (da_cons (de_int) da_nil))),
    (dss_cons (ds_set 2 nd (de_op op_addQ (de_int) (de_call F_law_take (hr.mono (by first | decide | exact Nat.le_refl _ | omega)) rfl tk (da_cons (de_var 1) (da_cons (de_int) da_nil)))))
    (dss_cons (ds_set 3 nd (de_call F_law_machine (hr.mono (by first | decide | exact Nat.le_refl _ | omega)) rfl tk (da_cons (de_var 1) (da_cons (de_var 2) da_nil))))
    (dss_cons (ds_if (dt_cmp (op_eqQ hu) (de_call F_law_take (hr.mono (by first | decide | exact Nat.le_refl _ | omega)) rfl tk (da_cons (de_var 1) (da_cons (de_int) da_nil))) (de_int) (nomark _)) (dss_cons (ds_set 4 nd (de_call F_law_take (hr.mono (by first | decide | exact Nat.le_refl _ | omega)) rfl tk (da_cons (de_var 1) (da_cons (de_callB cr_lenQ rfl h_len (by decide +kernel) (da_cons (de_ix (de_var 3) (de_int)) da_nil)) da_nil))))
    (dss_cons (ds_set 5 nd (de_tup (da_cons (de_op op_addQ (de_ix (de_var 3) (de_int)) (de_tup (da_cons (de_ix (de_ix (de_var 3) (de_int)) (de_var 4)) da_nil))) (da_cons (de_op op_addQ (de_ix (de_var 3) (de_int)) (de_if (dt_cmp (op_inQ hu) (de_var 4) (de_ix (de_var 3) (de_int)) rfl) (de_tup (da_cons (de_callB cr_lenQ rfl h_len (by decide +kernel) (da_cons (de_ix (de_var 3) (de_int)) da_nil)) da_nil)) (de_tup da_nil))) da_nil))))
    (dss_one (ds_set 5 nd (de_tup (da_cons (de_callTy cr_tupleQ rfl h_tuple (by decide +kernel) (da_cons (de_fresh (df_comp (own := [("row", 21)]) rfl nd (di_seq (de_ix (de_var 5) (de_int))) (blkOk_by (N := N_law) (sc := (defScope s_law)) (by decide +kernel)) (by decide) (fun _ _ _ _ _ => (dg_name 21 nd)) (fun _ _ _ _ _ => have tk : ∀ {X : Cx}, Takes X noX := takes0; dts_nil) (fun _ _ _ _ _ => have tk : ∀ {X : Cx}, Takes X noX := takes0; (de_callTy cr_tupleQ rfl h_tuple (by decide +kernel) (da_cons (de_fresh (df_comp (own := [("goal", 22)]) rfl nd (di_seq (de_var 21)) (blkOk_by (N := N_law) (sc := (relS { kind := PySem.ScopeKind.function, names := [(PySem.Str.ofString ".0", PySem.NameKind.local), (PySem.Str.ofString "row", PySem.NameKind.local), (PySem.Str.ofString "tuple", PySem.NameKind.globalImplicit), (PySem.Str.ofString "extra", PySem.NameKind.free), (PySem.Str.ofString "one", PySem.NameKind.free), (PySem.Str.ofString "tin", PySem.NameKind.free)], isGenerator := false, isCoroutine := false, more := [] : PySem.Scope } (defScope s_law))) (by decide +kernel)) (by decide) (fun _ _ _ _ _ => (dg_name 22 nd)) (fun _ _ _ _ _ => have tk : ∀ {X : Cx}, Takes X noX := takes0; dts_nil) (fun _ _ _ _ _ => have tk : ∀ {X : Cx}, Takes X noX := takes0; (de_if (PW.pt (dw_and (dt_cmp (op_eqQ hu) (de_var 22) (de_var 4) (nomark _)) (dw_and1 (dt_cmp (op_eqQ hu) (de_call F_law_take (hr.mono (by first | decide | exact Nat.le_refl _ | omega)) rfl tk (da_cons (de_var 1) (da_cons (de_int) da_nil))) (de_int) (nomark _))))) (de_callB cr_lenQ rfl h_len (by decide +kernel) (da_cons (de_ix (de_var 3) (de_int)) da_nil)) (de_var 22))))) da_nil))))) da_nil)) (da_cons (de_ix (de_var 5) (de_int)) da_nil))))))) (dss_one (ds_set 5 nd (de_call F_law_machine (hr.mono (by first | decide | exact Nat.le_refl _ | omega)) rfl tk (da_cons (de_var 1) (da_cons (de_var 2) da_nil))))))
    (dss_cons (ds_setLc 6 nd (own := [("own", 20)]) rfl (di_seq (de_tup (da_cons (de_var 3) (da_cons (de_var 5) da_nil)))) (blkOk_by (N := N_law) (sc := (defScope s_law)) (by decide +kernel)) (by decide) (fun _ _ _ _ _ => (dg_name 20 nd)) (fun _ _ _ _ _ => have tk : ∀ {X : Cx}, Takes X noX := takes0; dts_nil) (fun _ _ _ _ _ => have tk : ∀ {X : Cx}, Takes X noX := takes0; (de_call F_law_least_of (hr.mono (by first | decide | exact Nat.le_refl _ | omega)) rfl tk (da_cons (de_var 20) da_nil))))
    (dss_cons (ds_set 7 nd (de_fresh (df_lst (da_cons (de_call F_is_machine (hr.mono (by first | decide | exact Nat.le_refl _ | omega)) rfl tk (da_cons (de_var 3) da_nil)) (da_cons (de_call F_is_machine (hr.mono (by first | decide | exact Nat.le_refl _ | omega)) rfl tk (da_cons (de_call F_law_lists (hr.mono (by first | decide | exact Nat.le_refl _ | omega)) rfl tk (da_cons (de_var 3) da_nil)) da_nil)) (da_cons (de_call F_least (hr.mono (by first | decide | exact Nat.le_refl _ | omega)) rfl tk (da_cons (de_var 3) da_nil)) (da_cons (de_call F_least (hr.mono (by first | decide | exact Nat.le_refl _ | omega)) rfl tk (da_cons (de_call F_law_lists (hr.mono (by first | decide | exact Nat.le_refl _ | omega)) rfl tk (da_cons (de_var 5) da_nil)) da_nil)) (da_cons (de_call F_alike (hr.mono (by first | decide | exact Nat.le_refl _ | omega)) rfl tk (da_cons (de_var 3) (da_cons (de_var 5) da_nil))) da_nil))))))))
    (dss_cons (ds_if (dt_not (dt_val (de_call F_law_same (hr.mono (by first | decide | exact Nat.le_refl _ | omega)) rfl tk (da_cons (de_var 7) (da_cons (de_fresh (df_lst (da_cons (de_bl) (da_cons (de_bl) (da_cons (de_ix (de_var 6) (de_int)) (da_cons (de_ix (de_var 6) (de_int)) (da_cons (de_cmp (op_eqQ hu) (de_ix (de_var 6) (de_int)) (de_ix (de_var 6) (de_int)) (nomark _)) da_nil))))))) da_nil))))) (dss_one (ds_ret (de_bl))) dss_nil)
    (dss_cons (ds_par (i := 8) (j := 9) rfl nd rfl rfl (by decide) rfl rfl (dx_own (df_lst (da_cons (de_tup (da_cons (de_tup da_nil) (da_cons (de_int) (da_cons (de_int) da_nil)))) da_nil)) (dx_val (de_non) dx_nil)) (xOwn_un (xVal_un xNil_un)) rfl)
    (dss_cons (ds_own 10 nd (df_lst (da_cons (de_tup (da_cons (de_int) (da_cons (de_int) da_nil))) da_nil)))
    (dss_cons (ds_for hp rfl (di_range1 rfl h_range (de_int)) (dg_name 11 nd) (dss_one (ds_if (PW.pt (dw_and (dt_cmp op_isQ (de_var 9) (de_non) (nomark _)) (dw_and1 (dt_cmp op_ltQ (de_var 11) (de_callB cr_lenQ rfl h_len (by decide +kernel) (da_cons (de_top 8) da_nil)) (nomark _))))) (dss_cons (ds_asg (de_ix (de_top 8) (de_var 11)) (dg_tup rfl (dgs_cons (dg_name 12 nd) (dgs_cons (dg_name 13 nd) (dgs_cons (dg_name 14 nd) dgs_nil)))))
    (dss_cons (ds_if (dt_cmp (op_neQ hu) (de_cmp (op_inQ hu) (de_var 13) (de_ix (de_var 3) (de_int)) rfl) (de_cmp (op_inQ hu) (de_var 14) (de_ix (de_var 5) (de_int)) rfl) (nomark _)) (dss_one (ds_set 9 nd (de_var 12))) dss_nil)
    (dss_one (ds_for hp rfl (di_range2 rfl h_range (de_int) (de_op op_addQ (de_var 2) (de_int))) (dg_name 15 nd) (dss_cons (ds_set 16 nd (de_tup (da_cons (de_ix (de_ix (de_ix (de_var 3) (de_int)) (de_var 13)) (de_op op_subQ (de_var 15) (de_int))) (da_cons (de_ix (de_ix (de_ix (de_var 5) (de_int)) (de_var 14)) (de_op op_subQ (de_var 15) (de_int))) da_nil))))
    (dss_one (ds_if (dt_cmp (op_ninQ hu) (de_var 16) (de_top 10) rfl) (dss_cons (ds_app 10 (de_var 16))
    (dss_one (ds_app 8 (de_op op_addQ (de_tup (da_cons (de_op op_addQ (de_var 12) (de_tup (da_cons (de_var 15) da_nil))) da_nil)) (de_var 16))))) dss_nil))))))) dss_nil)))
    (dss_cons (ds_try rfl rfl E_CanNot rfl tk (fun W pn xe tk hp => (dss_one (ds_set 17 nd (de_call F_parting (hr.mono (by first | decide | exact Nat.le_refl _ | omega)) rfl tk (da_cons (de_var 3) (da_cons (de_call F_law_lists (hr.mono (by first | decide | exact Nat.le_refl _ | omega)) rfl tk (da_cons (de_var 5) da_nil)) da_nil)))))) (fun _ _ _ => have tk : ∀ {X : Cx}, Takes X noX := takes0; (dss_one (ds_set 17 nd (de_non)))))
    (dss_cons (ds_if (dt_cmp (op_neQ hu) (de_var 17) (de_var 9) (nomark _)) (dss_one (ds_ret (de_bl))) dss_nil)
    (dss_cons (ds_for hp rfl (di_range1 rfl h_range (de_int)) (dg_name 18 nd) (dss_cons (ds_set 12 nd (de_call F_law_row (hr.mono (by first | decide | exact Nat.le_refl _ | omega)) rfl tk (da_cons (de_var 1) (da_cons (de_var 2) (da_cons (de_call F_law_take (hr.mono (by first | decide | exact Nat.le_refl _ | omega)) rfl tk (da_cons (de_var 1) (da_cons (de_int) da_nil))) da_nil)))))
    (dss_cons (ds_set 19 nd (de_cmp (op_inQ hu) (de_call F_law_run_of (hr.mono (by first | decide | exact Nat.le_refl _ | omega)) rfl tk (da_cons (de_var 3) (da_cons (de_var 12) da_nil))) (de_ix (de_var 3) (de_int)) rfl))
    (dss_one (ds_if (dt_not (dt_val (de_call F_law_same (hr.mono (by first | decide | exact Nat.le_refl _ | omega)) rfl tk (da_cons (de_fresh (df_lst (da_cons (de_call F_takes (hr.mono (by first | decide | exact Nat.le_refl _ | omega)) rfl tk (da_cons (de_var 3) (da_cons (de_var 12) da_nil))) (da_cons (de_call F_takes (hr.mono (by first | decide | exact Nat.le_refl _ | omega)) rfl tk (da_cons (de_ix (de_var 6) (de_int)) (da_cons (de_call F_law_lists (hr.mono (by first | decide | exact Nat.le_refl _ | omega)) rfl tk (da_cons (de_var 12) da_nil)) da_nil))) (da_cons (de_call F_takes (hr.mono (by first | decide | exact Nat.le_refl _ | omega)) rfl tk (da_cons (de_call F_least (hr.mono (by first | decide | exact Nat.le_refl _ | omega)) rfl tk (da_cons (de_var 3) da_nil)) (da_cons (de_var 12) da_nil))) da_nil))))) (da_cons (de_op op_mulQ (de_fresh (df_lst (da_cons (de_var 19) da_nil))) (de_int)) da_nil))))) (dss_one (ds_ret (de_bl))) dss_nil)))))
    (dss_one (ds_ret (de_or (de_cmp op_isQ (de_var 9) (de_non) (nomark _)) (de_one (de_cmp (op_neQ hu) (de_call F_takes (hr.mono (by first | decide | exact Nat.le_refl _ | omega)) rfl tk (da_cons (de_var 3) (da_cons (de_var 9) da_nil))) (de_call F_takes (hr.mono (by first | decide | exact Nat.le_refl _ | omega)) rfl tk (da_cons (de_var 5) (da_cons (de_var 9) da_nil))) (nomark _))))))))))))))))))⟩
/-! ### what the top has written -/
theorem all_mk {l : PySem.W.OpenLaw} {w : World} {K : PySem.W.Frag} {h : Heap} {mg : Str → Option Value} {fa : Addr} (X : K.In h) (G : h.Ns mainGlobals mg) (hfa : mg "law" = some (.ref fa))
    {a_is_number : Addr} {od_is_number an_is_number : Option Addr} {sl_is_number : Array (Option Value)} {oc_is_number kV_is_number dc_is_number pm_is_number cd_is_number ct_is_number : Value}
    {a_is_tuple_of : Addr} {od_is_tuple_of an_is_tuple_of : Option Addr} {sl_is_tuple_of : Array (Option Value)} {oc_is_tuple_of kV_is_tuple_of dc_is_tuple_of pm_is_tuple_of cd_is_tuple_of ct_is_tuple_of : Value}
    {a_is_state : Addr} {od_is_state an_is_state : Option Addr} {sl_is_state : Array (Option Value)} {oc_is_state kV_is_state dc_is_state pm_is_state cd_is_state ct_is_state : Value}
    {a_is_machine : Addr} {od_is_machine an_is_machine : Option Addr} {sl_is_machine : Array (Option Value)} {oc_is_machine kV_is_machine dc_is_machine pm_is_machine cd_is_machine ct_is_machine : Value}
    {a_wide_of : Addr} {od_wide_of an_wide_of : Option Addr} {sl_wide_of : Array (Option Value)} {oc_wide_of kV_wide_of dc_wide_of pm_wide_of cd_wide_of ct_wide_of : Value}
    {a_state_after : Addr} {od_state_after an_state_after : Option Addr} {sl_state_after : Array (Option Value)} {oc_state_after kV_state_after dc_state_after pm_state_after cd_state_after ct_state_after : Value}
    {a_takes : Addr} {od_takes an_takes : Option Addr} {sl_takes : Array (Option Value)} {oc_takes kV_takes dc_takes pm_takes cd_takes ct_takes : Value}
    {a_come_to : Addr} {od_come_to an_come_to : Option Addr} {sl_come_to : Array (Option Value)} {oc_come_to kV_come_to dc_come_to pm_come_to cd_come_to ct_come_to : Value}
    {a_parts_of : Addr} {od_parts_of an_parts_of : Option Addr} {sl_parts_of : Array (Option Value)} {oc_parts_of kV_parts_of dc_parts_of pm_parts_of cd_parts_of ct_parts_of : Value}
    {a_renamed : Addr} {od_renamed an_renamed : Option Addr} {sl_renamed : Array (Option Value)} {oc_renamed kV_renamed dc_renamed pm_renamed cd_renamed ct_renamed : Value}
    {a_least_of : Addr} {od_least_of an_least_of : Option Addr} {sl_least_of : Array (Option Value)} {oc_least_of kV_least_of dc_least_of pm_least_of cd_least_of ct_least_of : Value}
    {a_least : Addr} {od_least an_least : Option Addr} {sl_least : Array (Option Value)} {oc_least kV_least dc_least pm_least cd_least ct_least : Value}
    {a_sure_wide : Addr} {od_sure_wide an_sure_wide : Option Addr} {sl_sure_wide : Array (Option Value)} {oc_sure_wide kV_sure_wide dc_sure_wide pm_sure_wide cd_sure_wide ct_sure_wide : Value}
    {a_alike : Addr} {od_alike an_alike : Option Addr} {sl_alike : Array (Option Value)} {oc_alike kV_alike dc_alike pm_alike cd_alike ct_alike : Value}
    {a_is_good : Addr} {od_is_good an_is_good : Option Addr} {sl_is_good : Array (Option Value)} {oc_is_good kV_is_good dc_is_good pm_is_good cd_is_good ct_is_good : Value}
    {a_joined : Addr} {od_joined an_joined : Option Addr} {sl_joined : Array (Option Value)} {oc_joined kV_joined dc_joined pm_joined cd_joined ct_joined : Value}
    {a_first_of : Addr} {od_first_of an_first_of : Option Addr} {sl_first_of : Array (Option Value)} {oc_first_of kV_first_of dc_first_of pm_first_of cd_first_of ct_first_of : Value}
    {a_first_taken : Addr} {od_first_taken an_first_taken : Option Addr} {sl_first_taken : Array (Option Value)} {oc_first_taken kV_first_taken dc_first_taken pm_first_taken cd_first_taken ct_first_taken : Value}
    {a_parting : Addr} {od_parting an_parting : Option Addr} {sl_parting : Array (Option Value)} {oc_parting kV_parting dc_parting pm_parting cd_parting ct_parting : Value}
    {a_law_box : Addr} {od_law_box an_law_box : Option Addr} {sl_law_box : Array (Option Value)} {oc_law_box kV_law_box dc_law_box pm_law_box cd_law_box ct_law_box : Value}
    {a_law_take : Addr} {od_law_take an_law_take : Option Addr} {sl_law_take : Array (Option Value)} {oc_law_take kV_law_take dc_law_take pm_law_take cd_law_take ct_law_take : Value}
    {a_law_cells : Addr} {od_law_cells an_law_cells : Option Addr} {sl_law_cells : Array (Option Value)} {oc_law_cells kV_law_cells dc_law_cells pm_law_cells cd_law_cells ct_law_cells : Value}
    {a_law_same : Addr} {od_law_same an_law_same : Option Addr} {sl_law_same : Array (Option Value)} {oc_law_same kV_law_same dc_law_same pm_law_same cd_law_same ct_law_same : Value}
    {a_law_lists : Addr} {od_law_lists an_law_lists : Option Addr} {sl_law_lists : Array (Option Value)} {oc_law_lists kV_law_lists dc_law_lists pm_law_lists cd_law_lists ct_law_lists : Value}
    {a_law_row : Addr} {od_law_row an_law_row : Option Addr} {sl_law_row : Array (Option Value)} {oc_law_row kV_law_row dc_law_row pm_law_row cd_law_row ct_law_row : Value}
    {a_law_machine : Addr} {od_law_machine an_law_machine : Option Addr} {sl_law_machine : Array (Option Value)} {oc_law_machine kV_law_machine dc_law_machine pm_law_machine cd_law_machine ct_law_machine : Value}
    {a_law_run_of : Addr} {od_law_run_of an_law_run_of : Option Addr} {sl_law_run_of : Array (Option Value)} {oc_law_run_of kV_law_run_of dc_law_run_of pm_law_run_of cd_law_run_of ct_law_run_of : Value}
    {a_law_least_of : Addr} {od_law_least_of an_law_least_of : Option Addr} {sl_law_least_of : Array (Option Value)} {oc_law_least_of kV_law_least_of dc_law_least_of pm_law_least_of cd_law_least_of ct_law_least_of : Value}
    {a_law : Addr} {od_law an_law : Option Addr} {sl_law : Array (Option Value)} {oc_law kV_law dc_law pm_law cd_law ct_law : Value}
    {a_Unfit : Addr}
    {a_CanNot : Addr}
    {t_MOST_WIDE : Tok}
    (n_is_number : PySem.W.nsIn K mainGlobals "is_number" = some (some (.ref a_is_number))) (l_is_number : K.lookup a_is_number = some ⟨oc_is_number, od_is_number, .func (PySem.W.fnOf "is_number" "is_number" (defArgs s_is_number) (defBody s_is_number) (defScope s_is_number) .none kV_is_number dc_is_number pm_is_number an_is_number cd_is_number ct_is_number), sl_is_number⟩) (c_is_number : PySem.W.codeIn K cd_is_number "is_number" = true) (k_is_number : PySem.W.keepIn K (.ref a_is_number) = true)
    (n_is_tuple_of : PySem.W.nsIn K mainGlobals "is_tuple_of" = some (some (.ref a_is_tuple_of))) (l_is_tuple_of : K.lookup a_is_tuple_of = some ⟨oc_is_tuple_of, od_is_tuple_of, .func (PySem.W.fnOf "is_tuple_of" "is_tuple_of" (defArgs s_is_tuple_of) (defBody s_is_tuple_of) (defScope s_is_tuple_of) .none kV_is_tuple_of dc_is_tuple_of pm_is_tuple_of an_is_tuple_of cd_is_tuple_of ct_is_tuple_of), sl_is_tuple_of⟩) (c_is_tuple_of : PySem.W.codeIn K cd_is_tuple_of "is_tuple_of" = true) (k_is_tuple_of : PySem.W.keepIn K (.ref a_is_tuple_of) = true)
    (n_is_state : PySem.W.nsIn K mainGlobals "is_state" = some (some (.ref a_is_state))) (l_is_state : K.lookup a_is_state = some ⟨oc_is_state, od_is_state, .func (PySem.W.fnOf "is_state" "is_state" (defArgs s_is_state) (defBody s_is_state) (defScope s_is_state) .none kV_is_state dc_is_state pm_is_state an_is_state cd_is_state ct_is_state), sl_is_state⟩) (c_is_state : PySem.W.codeIn K cd_is_state "is_state" = true) (k_is_state : PySem.W.keepIn K (.ref a_is_state) = true)
    (n_is_machine : PySem.W.nsIn K mainGlobals "is_machine" = some (some (.ref a_is_machine))) (l_is_machine : K.lookup a_is_machine = some ⟨oc_is_machine, od_is_machine, .func (PySem.W.fnOf "is_machine" "is_machine" (defArgs s_is_machine) (defBody s_is_machine) (defScope s_is_machine) .none kV_is_machine dc_is_machine pm_is_machine an_is_machine cd_is_machine ct_is_machine), sl_is_machine⟩) (c_is_machine : PySem.W.codeIn K cd_is_machine "is_machine" = true) (k_is_machine : PySem.W.keepIn K (.ref a_is_machine) = true)
    (n_wide_of : PySem.W.nsIn K mainGlobals "wide_of" = some (some (.ref a_wide_of))) (l_wide_of : K.lookup a_wide_of = some ⟨oc_wide_of, od_wide_of, .func (PySem.W.fnOf "wide_of" "wide_of" (defArgs s_wide_of) (defBody s_wide_of) (defScope s_wide_of) .none kV_wide_of dc_wide_of pm_wide_of an_wide_of cd_wide_of ct_wide_of), sl_wide_of⟩) (c_wide_of : PySem.W.codeIn K cd_wide_of "wide_of" = true) (k_wide_of : PySem.W.keepIn K (.ref a_wide_of) = true)
    (n_state_after : PySem.W.nsIn K mainGlobals "state_after" = some (some (.ref a_state_after))) (l_state_after : K.lookup a_state_after = some ⟨oc_state_after, od_state_after, .func (PySem.W.fnOf "state_after" "state_after" (defArgs s_state_after) (defBody s_state_after) (defScope s_state_after) .none kV_state_after dc_state_after pm_state_after an_state_after cd_state_after ct_state_after), sl_state_after⟩) (c_state_after : PySem.W.codeIn K cd_state_after "state_after" = true) (k_state_after : PySem.W.keepIn K (.ref a_state_after) = true)
    (n_takes : PySem.W.nsIn K mainGlobals "takes" = some (some (.ref a_takes))) (l_takes : K.lookup a_takes = some ⟨oc_takes, od_takes, .func (PySem.W.fnOf "takes" "takes" (defArgs s_takes) (defBody s_takes) (defScope s_takes) .none kV_takes dc_takes pm_takes an_takes cd_takes ct_takes), sl_takes⟩) (c_takes : PySem.W.codeIn K cd_takes "takes" = true) (k_takes : PySem.W.keepIn K (.ref a_takes) = true)
    (n_come_to : PySem.W.nsIn K mainGlobals "come_to" = some (some (.ref a_come_to))) (l_come_to : K.lookup a_come_to = some ⟨oc_come_to, od_come_to, .func (PySem.W.fnOf "come_to" "come_to" (defArgs s_come_to) (defBody s_come_to) (defScope s_come_to) .none kV_come_to dc_come_to pm_come_to an_come_to cd_come_to ct_come_to), sl_come_to⟩) (c_come_to : PySem.W.codeIn K cd_come_to "come_to" = true) (k_come_to : PySem.W.keepIn K (.ref a_come_to) = true)
    (n_parts_of : PySem.W.nsIn K mainGlobals "parts_of" = some (some (.ref a_parts_of))) (l_parts_of : K.lookup a_parts_of = some ⟨oc_parts_of, od_parts_of, .func (PySem.W.fnOf "parts_of" "parts_of" (defArgs s_parts_of) (defBody s_parts_of) (defScope s_parts_of) .none kV_parts_of dc_parts_of pm_parts_of an_parts_of cd_parts_of ct_parts_of), sl_parts_of⟩) (c_parts_of : PySem.W.codeIn K cd_parts_of "parts_of" = true) (k_parts_of : PySem.W.keepIn K (.ref a_parts_of) = true)
    (n_renamed : PySem.W.nsIn K mainGlobals "renamed" = some (some (.ref a_renamed))) (l_renamed : K.lookup a_renamed = some ⟨oc_renamed, od_renamed, .func (PySem.W.fnOf "renamed" "renamed" (defArgs s_renamed) (defBody s_renamed) (defScope s_renamed) .none kV_renamed dc_renamed pm_renamed an_renamed cd_renamed ct_renamed), sl_renamed⟩) (c_renamed : PySem.W.codeIn K cd_renamed "renamed" = true) (k_renamed : PySem.W.keepIn K (.ref a_renamed) = true)
    (n_least_of : PySem.W.nsIn K mainGlobals "least_of" = some (some (.ref a_least_of))) (l_least_of : K.lookup a_least_of = some ⟨oc_least_of, od_least_of, .func (PySem.W.fnOf "least_of" "least_of" (defArgs s_least_of) (defBody s_least_of) (defScope s_least_of) .none kV_least_of dc_least_of pm_least_of an_least_of cd_least_of ct_least_of), sl_least_of⟩) (c_least_of : PySem.W.codeIn K cd_least_of "least_of" = true) (k_least_of : PySem.W.keepIn K (.ref a_least_of) = true)
    (n_least : PySem.W.nsIn K mainGlobals "least" = some (some (.ref a_least))) (l_least : K.lookup a_least = some ⟨oc_least, od_least, .func (PySem.W.fnOf "least" "least" (defArgs s_least) (defBody s_least) (defScope s_least) .none kV_least dc_least pm_least an_least cd_least ct_least), sl_least⟩) (c_least : PySem.W.codeIn K cd_least "least" = true) (k_least : PySem.W.keepIn K (.ref a_least) = true)
    (n_sure_wide : PySem.W.nsIn K mainGlobals "sure_wide" = some (some (.ref a_sure_wide))) (l_sure_wide : K.lookup a_sure_wide = some ⟨oc_sure_wide, od_sure_wide, .func (PySem.W.fnOf "sure_wide" "sure_wide" (defArgs s_sure_wide) (defBody s_sure_wide) (defScope s_sure_wide) .none kV_sure_wide dc_sure_wide pm_sure_wide an_sure_wide cd_sure_wide ct_sure_wide), sl_sure_wide⟩) (c_sure_wide : PySem.W.codeIn K cd_sure_wide "sure_wide" = true) (k_sure_wide : PySem.W.keepIn K (.ref a_sure_wide) = true)
    (n_alike : PySem.W.nsIn K mainGlobals "alike" = some (some (.ref a_alike))) (l_alike : K.lookup a_alike = some ⟨oc_alike, od_alike, .func (PySem.W.fnOf "alike" "alike" (defArgs s_alike) (defBody s_alike) (defScope s_alike) .none kV_alike dc_alike pm_alike an_alike cd_alike ct_alike), sl_alike⟩) (c_alike : PySem.W.codeIn K cd_alike "alike" = true) (k_alike : PySem.W.keepIn K (.ref a_alike) = true)
    (n_is_good : PySem.W.nsIn K mainGlobals "is_good" = some (some (.ref a_is_good))) (l_is_good : K.lookup a_is_good = some ⟨oc_is_good, od_is_good, .func (PySem.W.fnOf "is_good" "is_good" (defArgs s_is_good) (defBody s_is_good) (defScope s_is_good) .none kV_is_good dc_is_good pm_is_good an_is_good cd_is_good ct_is_good), sl_is_good⟩) (c_is_good : PySem.W.codeIn K cd_is_good "is_good" = true) (k_is_good : PySem.W.keepIn K (.ref a_is_good) = true)
    (n_joined : PySem.W.nsIn K mainGlobals "joined" = some (some (.ref a_joined))) (l_joined : K.lookup a_joined = some ⟨oc_joined, od_joined, .func (PySem.W.fnOf "joined" "joined" (defArgs s_joined) (defBody s_joined) (defScope s_joined) .none kV_joined dc_joined pm_joined an_joined cd_joined ct_joined), sl_joined⟩) (c_joined : PySem.W.codeIn K cd_joined "joined" = true) (k_joined : PySem.W.keepIn K (.ref a_joined) = true)
    (n_first_of : PySem.W.nsIn K mainGlobals "first_of" = some (some (.ref a_first_of))) (l_first_of : K.lookup a_first_of = some ⟨oc_first_of, od_first_of, .func (PySem.W.fnOf "first_of" "first_of" (defArgs s_first_of) (defBody s_first_of) (defScope s_first_of) .none kV_first_of dc_first_of pm_first_of an_first_of cd_first_of ct_first_of), sl_first_of⟩) (c_first_of : PySem.W.codeIn K cd_first_of "first_of" = true) (k_first_of : PySem.W.keepIn K (.ref a_first_of) = true)
    (n_first_taken : PySem.W.nsIn K mainGlobals "first_taken" = some (some (.ref a_first_taken))) (l_first_taken : K.lookup a_first_taken = some ⟨oc_first_taken, od_first_taken, .func (PySem.W.fnOf "first_taken" "first_taken" (defArgs s_first_taken) (defBody s_first_taken) (defScope s_first_taken) .none kV_first_taken dc_first_taken pm_first_taken an_first_taken cd_first_taken ct_first_taken), sl_first_taken⟩) (c_first_taken : PySem.W.codeIn K cd_first_taken "first_taken" = true) (k_first_taken : PySem.W.keepIn K (.ref a_first_taken) = true)
    (n_parting : PySem.W.nsIn K mainGlobals "parting" = some (some (.ref a_parting))) (l_parting : K.lookup a_parting = some ⟨oc_parting, od_parting, .func (PySem.W.fnOf "parting" "parting" (defArgs s_parting) (defBody s_parting) (defScope s_parting) .none kV_parting dc_parting pm_parting an_parting cd_parting ct_parting), sl_parting⟩) (c_parting : PySem.W.codeIn K cd_parting "parting" = true) (k_parting : PySem.W.keepIn K (.ref a_parting) = true)
    (n_law_box : PySem.W.nsIn K mainGlobals "_law_box" = some (some (.ref a_law_box))) (l_law_box : K.lookup a_law_box = some ⟨oc_law_box, od_law_box, .func (PySem.W.fnOf "_law_box" "_law_box" (defArgs s_law_box) (defBody s_law_box) (defScope s_law_box) .none kV_law_box dc_law_box pm_law_box an_law_box cd_law_box ct_law_box), sl_law_box⟩) (c_law_box : PySem.W.codeIn K cd_law_box "_law_box" = true) (k_law_box : PySem.W.keepIn K (.ref a_law_box) = true)
    (n_law_take : PySem.W.nsIn K mainGlobals "_law_take" = some (some (.ref a_law_take))) (l_law_take : K.lookup a_law_take = some ⟨oc_law_take, od_law_take, .func (PySem.W.fnOf "_law_take" "_law_take" (defArgs s_law_take) (defBody s_law_take) (defScope s_law_take) .none kV_law_take dc_law_take pm_law_take an_law_take cd_law_take ct_law_take), sl_law_take⟩) (c_law_take : PySem.W.codeIn K cd_law_take "_law_take" = true) (k_law_take : PySem.W.keepIn K (.ref a_law_take) = true)
    (n_law_cells : PySem.W.nsIn K mainGlobals "_law_cells" = some (some (.ref a_law_cells))) (l_law_cells : K.lookup a_law_cells = some ⟨oc_law_cells, od_law_cells, .func (PySem.W.fnOf "_law_cells" "_law_cells" (defArgs s_law_cells) (defBody s_law_cells) (defScope s_law_cells) .none kV_law_cells dc_law_cells pm_law_cells an_law_cells cd_law_cells ct_law_cells), sl_law_cells⟩) (c_law_cells : PySem.W.codeIn K cd_law_cells "_law_cells" = true) (k_law_cells : PySem.W.keepIn K (.ref a_law_cells) = true)
    (n_law_same : PySem.W.nsIn K mainGlobals "_law_same" = some (some (.ref a_law_same))) (l_law_same : K.lookup a_law_same = some ⟨oc_law_same, od_law_same, .func (PySem.W.fnOf "_law_same" "_law_same" (defArgs s_law_same) (defBody s_law_same) (defScope s_law_same) .none kV_law_same dc_law_same pm_law_same an_law_same cd_law_same ct_law_same), sl_law_same⟩) (c_law_same : PySem.W.codeIn K cd_law_same "_law_same" = true) (k_law_same : PySem.W.keepIn K (.ref a_law_same) = true)
    (n_law_lists : PySem.W.nsIn K mainGlobals "_law_lists" = some (some (.ref a_law_lists))) (l_law_lists : K.lookup a_law_lists = some ⟨oc_law_lists, od_law_lists, .func (PySem.W.fnOf "_law_lists" "_law_lists" (defArgs s_law_lists) (defBody s_law_lists) (defScope s_law_lists) .none kV_law_lists dc_law_lists pm_law_lists an_law_lists cd_law_lists ct_law_lists), sl_law_lists⟩) (c_law_lists : PySem.W.codeIn K cd_law_lists "_law_lists" = true) (k_law_lists : PySem.W.keepIn K (.ref a_law_lists) = true)
    (n_law_row : PySem.W.nsIn K mainGlobals "_law_row" = some (some (.ref a_law_row))) (l_law_row : K.lookup a_law_row = some ⟨oc_law_row, od_law_row, .func (PySem.W.fnOf "_law_row" "_law_row" (defArgs s_law_row) (defBody s_law_row) (defScope s_law_row) .none kV_law_row dc_law_row pm_law_row an_law_row cd_law_row ct_law_row), sl_law_row⟩) (c_law_row : PySem.W.codeIn K cd_law_row "_law_row" = true) (k_law_row : PySem.W.keepIn K (.ref a_law_row) = true)
    (n_law_machine : PySem.W.nsIn K mainGlobals "_law_machine" = some (some (.ref a_law_machine))) (l_law_machine : K.lookup a_law_machine = some ⟨oc_law_machine, od_law_machine, .func (PySem.W.fnOf "_law_machine" "_law_machine" (defArgs s_law_machine) (defBody s_law_machine) (defScope s_law_machine) .none kV_law_machine dc_law_machine pm_law_machine an_law_machine cd_law_machine ct_law_machine), sl_law_machine⟩) (c_law_machine : PySem.W.codeIn K cd_law_machine "_law_machine" = true) (k_law_machine : PySem.W.keepIn K (.ref a_law_machine) = true)
    (n_law_run_of : PySem.W.nsIn K mainGlobals "_law_run_of" = some (some (.ref a_law_run_of))) (l_law_run_of : K.lookup a_law_run_of = some ⟨oc_law_run_of, od_law_run_of, .func (PySem.W.fnOf "_law_run_of" "_law_run_of" (defArgs s_law_run_of) (defBody s_law_run_of) (defScope s_law_run_of) .none kV_law_run_of dc_law_run_of pm_law_run_of an_law_run_of cd_law_run_of ct_law_run_of), sl_law_run_of⟩) (c_law_run_of : PySem.W.codeIn K cd_law_run_of "_law_run_of" = true) (k_law_run_of : PySem.W.keepIn K (.ref a_law_run_of) = true)
    (n_law_least_of : PySem.W.nsIn K mainGlobals "_law_least_of" = some (some (.ref a_law_least_of))) (l_law_least_of : K.lookup a_law_least_of = some ⟨oc_law_least_of, od_law_least_of, .func (PySem.W.fnOf "_law_least_of" "_law_least_of" (defArgs s_law_least_of) (defBody s_law_least_of) (defScope s_law_least_of) .none kV_law_least_of dc_law_least_of pm_law_least_of an_law_least_of cd_law_least_of ct_law_least_of), sl_law_least_of⟩) (c_law_least_of : PySem.W.codeIn K cd_law_least_of "_law_least_of" = true) (k_law_least_of : PySem.W.keepIn K (.ref a_law_least_of) = true)
    (n_law : PySem.W.nsIn K mainGlobals "law" = some (some (.ref a_law))) (l_law : K.lookup a_law = some ⟨oc_law, od_law, .func (PySem.W.fnOf "law" "law" (defArgs s_law) (defBody s_law) (defScope s_law) .none kV_law dc_law pm_law an_law cd_law ct_law), sl_law⟩) (c_law : PySem.W.codeIn K cd_law "law" = true) (k_law : PySem.W.keepIn K (.ref a_law) = true)
    (z_isinstance : PySem.W.nsIn K mainGlobals "isinstance" = some none)
    (z_bool : PySem.W.nsIn K mainGlobals "bool" = some none)
    (z_int : PySem.W.nsIn K mainGlobals "int" = some none)
    (z_len : PySem.W.nsIn K mainGlobals "len" = some none)
    (z_tuple : PySem.W.nsIn K mainGlobals "tuple" = some none)
    (z_all : PySem.W.nsIn K mainGlobals "all" = some none)
    (z_zip : PySem.W.nsIn K mainGlobals "zip" = some none)
    (z_enumerate : PySem.W.nsIn K mainGlobals "enumerate" = some none)
    (z_set : PySem.W.nsIn K mainGlobals "set" = some none)
    (z_sorted : PySem.W.nsIn K mainGlobals "sorted" = some none)
    (z_range : PySem.W.nsIn K mainGlobals "range" = some none)
    (z_max : PySem.W.nsIn K mainGlobals "max" = some none)
    (z_abs : PySem.W.nsIn K mainGlobals "abs" = some none)
    (z_list : PySem.W.nsIn K mainGlobals "list" = some none)
    (z_str : PySem.W.nsIn K mainGlobals "str" = some none)
    (en_Unfit : PySem.W.nsIn K mainGlobals "Unfit" = some (some (.ref a_Unfit))) (eq_Unfit : PySem.W.excIn K a_Unfit [.type "ValueError", .type "Exception", .type "BaseException", .type "object"] "ValueError.__new__" = true) (ek_Unfit : PySem.W.keepIn K (.ref a_Unfit) = true) (eb_Unfit : PySem.W.subIn K (.ref a_Unfit) (.type "BaseException") = some true) (et_Unfit : PySem.W.typeIn K (.ref a_Unfit) = some (.type "type")) (ei_Unfit : PySem.W.isClsIn K a_Unfit = true) (es_Unfit : PySem.W.subIn K (.ref a_Unfit) (.ref a_Unfit) = some true)
    (en_CanNot : PySem.W.nsIn K mainGlobals "CanNot" = some (some (.ref a_CanNot))) (eq_CanNot : PySem.W.excIn K a_CanNot [.type "ValueError", .type "Exception", .type "BaseException", .type "object"] "ValueError.__new__" = true) (ek_CanNot : PySem.W.keepIn K (.ref a_CanNot) = true) (eb_CanNot : PySem.W.subIn K (.ref a_CanNot) (.type "BaseException") = some true) (et_CanNot : PySem.W.typeIn K (.ref a_CanNot) = some (.type "type")) (ei_CanNot : PySem.W.isClsIn K a_CanNot = true) (es_CanNot : PySem.W.subIn K (.ref a_CanNot) (.ref a_CanNot) = some true)
    (v_MOST_WIDE : PySem.W.nsIn K mainGlobals "MOST_WIDE" = some (some (.int 3 t_MOST_WIDE))) :
    ∃ fd : FuncData, (∀ (s : Shared) (v : Value), BindsTo s fd ⟨[v], []⟩ [("script", v)]) ∧ ∀ base : Heap, K.In base → base.Ns mainGlobals mg → FnOk l.prog w K mg base (L2.CX l.prog w) 10 fa fd ["script"] (spL K (lawGood f_law b_law 23)) := by
  have e := hfa.symm.trans (PySem.W.mg_of X G n_law)
  cases e
  refine ⟨PySem.W.fnOf "law" "law" (defArgs s_law) (defBody s_law) (defScope s_law) .none kV_law dc_law pm_law an_law cd_law ct_law, fun s v => .of_eq rfl, fun base _ _ => ?_⟩
  have h_isinstance := PySem.W.mg_none_of X G z_isinstance
  have h_bool := PySem.W.mg_none_of X G z_bool
  have h_int := PySem.W.mg_none_of X G z_int
  have h_len := PySem.W.mg_none_of X G z_len
  have h_tuple := PySem.W.mg_none_of X G z_tuple
  have h_all := PySem.W.mg_none_of X G z_all
  have h_zip := PySem.W.mg_none_of X G z_zip
  have h_enumerate := PySem.W.mg_none_of X G z_enumerate
  have h_set := PySem.W.mg_none_of X G z_set
  have h_sorted := PySem.W.mg_none_of X G z_sorted
  have h_range := PySem.W.mg_none_of X G z_range
  have h_max := PySem.W.mg_none_of X G z_max
  have h_abs := PySem.W.mg_none_of X G z_abs
  have h_list := PySem.W.mg_none_of X G z_list
  have h_str := PySem.W.mg_none_of X G z_str
  have g_MOST_WIDE : GlobIs l.prog w K mg "MOST_WIDE" c_MOST_WIDE := globIs_int (PySem.W.mg_of X G v_MOST_WIDE)
  have E_Unfit : ErrC K mg "Unfit" := errC_mk (PySem.W.mg_of X G en_Unfit) eq_Unfit ek_Unfit eb_Unfit et_Unfit ei_Unfit es_Unfit
  have E_CanNot : ErrC K mg "CanNot" := errC_mk (PySem.W.mg_of X G en_CanNot) eq_CanNot ek_CanNot eb_CanNot et_CanNot ei_CanNot es_CanNot
  have U_is_number := fun_mk (st := s_is_number) l_is_number c_is_number k_is_number
  have B_is_number := U_is_number.binds (ps := ["thing"]) fun _ _ _ _ _ _ us hl => match us, hl with | [_], _ => rfl
  have F_is_number : Fn l.prog w K mg base "is_number" 1 1 m_is_number := ok_is_number U_is_number (PySem.W.mg_of X G n_is_number) B_is_number h_isinstance h_bool h_int
  have U_is_tuple_of := fun_mk (st := s_is_tuple_of) l_is_tuple_of c_is_tuple_of k_is_tuple_of
  have B_is_tuple_of := U_is_tuple_of.binds (ps := ["thing", "many"]) fun _ _ _ _ _ _ us hl => match us, hl with | [_, _], _ => rfl
  have F_is_tuple_of : Fn l.prog w K mg base "is_tuple_of" 1 2 m_is_tuple_of := ok_is_tuple_of U_is_tuple_of (PySem.W.mg_of X G n_is_tuple_of) B_is_tuple_of h_len h_isinstance h_tuple
  have U_is_state := fun_mk (st := s_is_state) l_is_state c_is_state k_is_state
  have B_is_state := U_is_state.binds (ps := ["thing", "many"]) fun _ _ _ _ _ _ us hl => match us, hl with | [_, _], _ => rfl
  have F_is_state : Fn l.prog w K mg base "is_state" 2 2 m_is_state := ok_is_state U_is_state (PySem.W.mg_of X G n_is_state) B_is_state F_is_number
  have U_is_machine := fun_mk (st := s_is_machine) l_is_machine c_is_machine k_is_machine
  have B_is_machine := U_is_machine.binds (ps := ["thing"]) fun _ _ _ _ _ _ us hl => match us, hl with | [_], _ => rfl
  have F_is_machine : Fn l.prog w K mg base "is_machine" 3 1 m_is_machine := ok_is_machine U_is_machine (PySem.W.mg_of X G n_is_machine) B_is_machine h_all h_zip h_len h_isinstance h_tuple g_MOST_WIDE F_is_state F_is_tuple_of
  have U_wide_of := fun_mk (st := s_wide_of) l_wide_of c_wide_of k_wide_of
  have B_wide_of := U_wide_of.binds (ps := ["machine"]) fun _ _ _ _ _ _ us hl => match us, hl with | [_], _ => rfl
  have F_wide_of : Fn l.prog w K mg base "wide_of" 1 1 m_wide_of := ok_wide_of U_wide_of (PySem.W.mg_of X G n_wide_of) B_wide_of h_len
  have U_state_after := fun_mk (st := s_state_after) l_state_after c_state_after k_state_after
  have B_state_after := U_state_after.binds (ps := ["machine", "text"]) fun _ _ _ _ _ _ us hl => match us, hl with | [_, _], _ => rfl
  have F_state_after : Fn l.prog w K mg base "state_after" 1 2 m_state_after := ok_state_after U_state_after (PySem.W.mg_of X G n_state_after) B_state_after
  have U_takes := fun_mk (st := s_takes) l_takes c_takes k_takes
  have B_takes := U_takes.binds (ps := ["machine", "text"]) fun _ _ _ _ _ _ us hl => match us, hl with | [_, _], _ => rfl
  have F_takes : Fn l.prog w K mg base "takes" 2 2 m_takes := ok_takes U_takes (PySem.W.mg_of X G n_takes) B_takes F_state_after
  have U_come_to := fun_mk (st := s_come_to) l_come_to c_come_to k_come_to
  have B_come_to := U_come_to.binds (ps := ["steps", "first"]) fun _ _ _ _ _ _ us hl => match us, hl with | [_, _], _ => rfl
  have F_come_to : Fn l.prog w K mg base "come_to" 1 2 m_come_to := ok_come_to U_come_to (PySem.W.mg_of X G n_come_to) B_come_to h_len h_enumerate
  have U_parts_of := fun_mk (st := s_parts_of) l_parts_of c_parts_of k_parts_of
  have B_parts_of := U_parts_of.binds (ps := ["steps", "ends"]) fun _ _ _ _ _ _ us hl => match us, hl with | [_, _], _ => rfl
  have F_parts_of : Fn l.prog w K mg base "parts_of" 1 2 m_parts_of := ok_parts_of U_parts_of (PySem.W.mg_of X G n_parts_of) B_parts_of h_len h_set h_sorted h_range h_int
  have U_renamed := fun_mk (st := s_renamed) l_renamed c_renamed k_renamed
  have B_renamed := U_renamed.binds (ps := ["steps", "ends", "first"]) fun _ _ _ _ _ _ us hl => match us, hl with | [_, _, _], _ => rfl
  have F_renamed : Fn l.prog w K mg base "renamed" 2 3 m_renamed := ok_renamed U_renamed (PySem.W.mg_of X G n_renamed) B_renamed h_tuple h_enumerate F_come_to
  have U_least_of := fun_mk (st := s_least_of) l_least_of c_least_of k_least_of
  have B_least_of := U_least_of.binds (ps := ["steps", "ends", "first"]) fun _ _ _ _ _ _ us hl => match us, hl with | [_, _, _], _ => rfl
  have F_least_of : Fn l.prog w K mg base "least_of" 3 3 m_least_of := ok_least_of U_least_of (PySem.W.mg_of X G n_least_of) B_least_of h_enumerate h_range h_max F_renamed F_parts_of
  have U_least := fun_mk (st := s_least) l_least c_least k_least
  have B_least := U_least.binds (ps := ["machine"]) fun _ _ _ _ _ _ us hl => match us, hl with | [_], _ => rfl
  have F_least : Fn l.prog w K mg base "least" 4 1 m_least := ok_least U_least (PySem.W.mg_of X G n_least) B_least F_least_of
  have U_sure_wide := fun_mk (st := s_sure_wide) l_sure_wide c_sure_wide k_sure_wide
  have B_sure_wide := U_sure_wide.binds (ps := ["one", "other"]) fun _ _ _ _ _ _ us hl => match us, hl with | [_, _], _ => rfl
  have F_sure_wide : Fn l.prog w K mg base "sure_wide" 2 2 m_sure_wide := ok_sure_wide U_sure_wide (PySem.W.mg_of X G n_sure_wide) B_sure_wide E_Unfit F_wide_of
  have U_alike := fun_mk (st := s_alike) l_alike c_alike k_alike
  have B_alike := U_alike.binds (ps := ["one", "other"]) fun _ _ _ _ _ _ us hl => match us, hl with | [_, _], _ => rfl
  have F_alike : Fn l.prog w K mg base "alike" 5 2 m_alike := ok_alike U_alike (PySem.W.mg_of X G n_alike) B_alike F_least F_sure_wide
  have U_is_good := fun_mk (st := s_is_good) l_is_good c_is_good k_is_good
  have B_is_good := U_is_good.binds (ps := ["near", "far", "word"]) fun _ _ _ _ _ _ us hl => match us, hl with | [_, _, _], _ => rfl
  have F_is_good : Fn l.prog w K mg base "is_good" 1 3 m_is_good := ok_is_good U_is_good (PySem.W.mg_of X G n_is_good) B_is_good
  have U_joined := fun_mk (st := s_joined) l_joined c_joined k_joined
  have B_joined := U_joined.binds (ps := ["one", "other", "word"]) fun _ _ _ _ _ _ us hl => match us, hl with | [_, _, _], _ => rfl
  have F_joined : Fn l.prog w K mg base "joined" 4 3 m_joined := ok_joined U_joined (PySem.W.mg_of X G n_joined) B_joined h_enumerate h_zip h_len F_least_of F_is_good F_sure_wide
  have U_first_of := fun_mk (st := s_first_of) l_first_of c_first_of k_first_of
  have B_first_of := U_first_of.binds (ps := ["steps", "ends", "first"]) fun _ _ _ _ _ _ us hl => match us, hl with | [_, _, _], _ => rfl
  have F_first_of : Fn l.prog w K mg base "first_of" 1 3 m_first_of := ok_first_of U_first_of (PySem.W.mg_of X G n_first_of) B_first_of h_len h_enumerate
  have U_first_taken := fun_mk (st := s_first_taken) l_first_taken c_first_taken k_first_taken
  have B_first_taken := U_first_taken.binds (ps := ["machine"]) fun _ _ _ _ _ _ us hl => match us, hl with | [_], _ => rfl
  have F_first_taken : Fn l.prog w K mg base "first_taken" 2 1 m_first_taken := ok_first_taken U_first_taken (PySem.W.mg_of X G n_first_taken) B_first_taken E_CanNot F_first_of
  have U_parting := fun_mk (st := s_parting) l_parting c_parting k_parting
  have B_parting := U_parting.binds (ps := ["one", "other"]) fun _ _ _ _ _ _ us hl => match us, hl with | [_, _], _ => rfl
  have F_parting : Fn l.prog w K mg base "parting" 5 2 m_parting := ok_parting U_parting (PySem.W.mg_of X G n_parting) B_parting F_first_taken F_joined
  have U_law_box := fun_mk (st := s_law_box) l_law_box c_law_box k_law_box
  have B_law_box := U_law_box.binds (ps := ["script", "k"]) fun _ _ _ _ _ _ us hl => match us, hl with | [_, _], _ => rfl
  have F_law_box : Fn l.prog w K mg base "_law_box" 1 2 m_law_box := ok_law_box U_law_box (PySem.W.mg_of X G n_law_box) B_law_box h_int h_abs h_len
  have U_law_take := fun_mk (st := s_law_take) l_law_take c_law_take k_law_take
  have B_law_take := U_law_take.binds (ps := ["tin", "below"]) fun _ _ _ _ _ _ us hl => match us, hl with | [_, _], _ => rfl
  have F_law_take : Fn l.prog w K mg base "_law_take" 1 2 m_law_take := ok_law_take U_law_take (PySem.W.mg_of X G n_law_take) B_law_take h_int
  have U_law_cells := fun_mk (st := s_law_cells) l_law_cells c_law_cells k_law_cells
  have B_law_cells := U_law_cells.binds (ps := ["script", "most"]) fun _ _ _ _ _ _ us hl => match us, hl with | [_, _], _ => rfl
  have F_law_cells : Fn l.prog w K mg base "_law_cells" 1 2 m_law_cells := ok_law_cells U_law_cells (PySem.W.mg_of X G n_law_cells) B_law_cells h_enumerate h_int h_list
  have U_law_same := fun_mk (st := s_law_same) l_law_same c_law_same k_law_same
  have B_law_same := U_law_same.binds (ps := ["got", "goal"]) fun _ _ _ _ _ _ us hl => match us, hl with | [_, _], _ => rfl
  have F_law_same : Fn l.prog w K mg base "_law_same" 9 2 (m_law_same 8) := ok_law_same U_law_same (PySem.W.mg_of X G n_law_same) B_law_same h_isinstance h_bool h_int h_str h_list h_tuple h_all h_zip h_len 8
  have U_law_lists := fun_mk (st := s_law_lists) l_law_lists c_law_lists k_law_lists
  have B_law_lists := U_law_lists.binds (ps := ["matter"]) fun _ _ _ _ _ _ us hl => match us, hl with | [_], _ => rfl
  have F_law_lists : Fn l.prog w K mg base "_law_lists" 9 1 (m_law_lists 8) := ok_law_lists U_law_lists (PySem.W.mg_of X G n_law_lists) B_law_lists h_isinstance h_list h_tuple 8
  have U_law_row := fun_mk (st := s_law_row) l_law_row c_law_row k_law_row
  have B_law_row := U_law_row.binds (ps := ["tin", "wide", "many"]) fun _ _ _ _ _ _ us hl => match us, hl with | [_, _, _], _ => rfl
  have F_law_row : Fn l.prog w K mg base "_law_row" 2 3 m_law_row := ok_law_row U_law_row (PySem.W.mg_of X G n_law_row) B_law_row h_tuple h_range F_law_take
  have U_law_machine := fun_mk (st := s_law_machine) l_law_machine c_law_machine k_law_machine
  have B_law_machine := U_law_machine.binds (ps := ["tin", "wide"]) fun _ _ _ _ _ _ us hl => match us, hl with | [_, _], _ => rfl
  have F_law_machine : Fn l.prog w K mg base "_law_machine" 2 2 m_law_machine := ok_law_machine U_law_machine (PySem.W.mg_of X G n_law_machine) B_law_machine h_tuple h_range F_law_take
  have U_law_run_of := fun_mk (st := s_law_run_of) l_law_run_of c_law_run_of k_law_run_of
  have B_law_run_of := U_law_run_of.binds (ps := ["machine", "text"]) fun _ _ _ _ _ _ us hl => match us, hl with | [_, _], _ => rfl
  have F_law_run_of : Fn l.prog w K mg base "_law_run_of" 1 2 m_law_run_of := ok_law_run_of U_law_run_of (PySem.W.mg_of X G n_law_run_of) B_law_run_of
  have U_law_least_of := fun_mk (st := s_law_least_of) l_law_least_of c_law_least_of k_law_least_of
  have B_law_least_of := U_law_least_of.binds (ps := ["machine"]) fun _ _ _ _ _ _ us hl => match us, hl with | [_], _ => rfl
  have F_law_least_of : Fn l.prog w K mg base "_law_least_of" 1 1 m_law_least_of := ok_law_least_of U_law_least_of (PySem.W.mg_of X G n_law_least_of) B_law_least_of h_tuple h_enumerate h_range h_len h_sorted h_set h_int
  have U_law := fun_mk (st := s_law) l_law c_law k_law
  exact ok_law U_law h_range h_len h_tuple E_CanNot F_law_box F_law_cells F_takes F_law_same F_least F_law_lists F_law_run_of F_law_row F_law_take F_parting F_alike F_is_machine F_law_least_of F_law_machine
end K41
end

section
set_option Elab.async false
set_option linter.all false
set_option maxRecDepth 100000
set_option maxHeartbeats 4000000
open PySem PySem.Spec PyProof.Rows L2 DL MA
namespace K41
/-! ### machines: how they lie -/
abbrev mD (a b c e : Bool) (rows : Rows) (ends : List Nat) : D := sq a [nss b c rows, ns e ends]
section
variable {wd : Nat} {rows : Rows} {ends : List Nat} {a b c e t : Bool}
theorem getD_some {xs : List Nat} {i : Nat} (h : i < xs.length) : xs[i]? = some (xs.getD i 0) := by
  rw [List.getD_eq_getElem?_getD, List.getElem?_eq_getElem h]; rfl
theorem row_some {rows : Rows} {i : Nat} (h : i < rows.length) : rows[i]? = some (nx rows i) := by
  unfold nx
  rw [List.getD_eq_getElem?_getD, List.getElem?_eq_getElem h]; rfl
theorem ix_ns {xs : List Nat} {i : Nat} (h : i < xs.length) : ixD (ns b xs) (ni i) = some (ni (xs.getD i 0)) := by
  rw [ix_sq, getD_some h]; rfl
theorem ix_nss {i : Nat} (h : i < rows.length) : ixD (nss b c rows) (ni i) = some (ns c (nx rows i)) := by
  rw [ix_sq, row_some h]; rfl
theorem v_wide_of (o : Ok wd rows) : m_wide_of [mD a b c e rows ends] = M.pure (ni wd) := by
  refine runG_rt rfl fun τ => ?_
  have h := ix_nss (b := b) (c := c) o.pos
  have h : ixD (nss b c rows) (.int 0) = _ := h
  have hl := o.nx_len o.pos
  simp (implicitDefEqProofs := false) only [b_wide_of, DL.sSeq, DL.seqO, DL.sIf, DL.sRet, DL.sSet, DL.sExpr, DL.sNo, DL.sNil, DL.sMany, DL.setS, DL.sAsg, DL.bO_pure, DL.dVar, DL.dC, DL.dOp, DL.dCB, DL.dCall, DL.aCons, DL.aNil, DL.dB, DL.bAnd, DL.bOr, DL.bNot, DL.dAnd, DL.dOr, DL.dNot, DL.dNeg, DL.dChain, DL.dIsi, DL.dIsi2, DL.tyD, DL.Ty.isa, DL.dSlice, DL.pNone, DL.pSome, DL.dTup, DL.dOf, DL.fLst, DL.fComp, DL.fItems, DL.wipeS, DL.iSeq, DL.iR1, DL.iR2, DL.iZip, DL.xVal, DL.xNil, DL.dIf, DL.gN, DL.gT, DL.gsN, DL.gsC, DL.aStar, DL.M.pure_bind, DL.M.lift_some, DL.toB_bl, DL.toI_int, DL.fits_map, DL.fits_nil, List.map_cons, List.map_nil, List.replicate, List.cons_append, List.nil_append, Nat.sub_zero, Nat.reduceSub, List.getElem?_cons_zero, List.getElem?_cons_succ, List.length_cons, List.length_nil, Nat.zero_add, Nat.reduceAdd, if_true, List.set_cons_zero, List.set_cons_succ, Option.bind_some, DL.items_tup, DL.items_lst, Bool.false_eq_true, if_false, Bool.not_true, Bool.not_false, Bool.true_and, Bool.and_true, Bool.false_and, DL.dTop, DL.items_sq, DL.len_sq, List.length_map, DL.ix_sq0, DL.ix_sq1, DL.in_ns, DL.nin_ns, DL.eqD_ni, DL.neD_ni, DL.add_ni, DL.lt_ni, DL.le_ni, DL.tuple_sq, DL.int_bl, DL.rangeD_0, Int.toNat_natCast, DL.comp_n, DL.comp_nt, DL.comp_2, DL.comp_2t, DL.mapMM_pure, DL.filtMM_pure, DL.ifp_and, DL.ifp_or, DL.ifd_and, DL.ifd_or, DL.filtMM_yes, h, hl]
theorem low_snoc (u : List Nat) (l : Nat) : low (u ++ [l]) = low u ++ [l - 1] := by unfold low; rw [List.map_append]; rfl
theorem v_state_after (o : Ok wd rows) {text : List Nat} (ht : Tx wd text) : m_state_after [mD a b c e rows ends, ns t text] = M.pure (ni (run rows 0 (low text))) := by
  refine runG_rt rfl fun τ => ?_
  have hi : ∀ ρ : DL.Env, ρ[1]? = some (.d (ns t text)) → iSeq (dVar 1) ρ = M.pure (text.map ni) := fun ρ h => by
    unfold iSeq dVar
    rw [h, M.pure_bind, items_sq]; rfl
  refine st_set rfl ?_
  refine st_for (xs := text) (j := ni) (hi _ rfl) (fun i ρ τ' => τ' = τ ∧ ∃ s3, ρ = [.d (mD a b c e rows ends), .d (ns t text), .d (ni (run rows 0 (low (text.take i)))), s3]) ⟨rfl, _, rfl⟩ ?_ ?_
  · rintro i l ρ τ' hl ⟨rfl, s3, rfl⟩
    have hm := ht l (List.mem_of_getElem? hl)
    have hw : Wd wd (low (text.take i)) := low_wd fun x hx => ht x (List.mem_of_mem_take hx)
    have hq := o.run_lt o.pos hw
    have e1 := ix_nss (b := b) (c := c) hq
    have e2 := ix_ns (b := c) (xs := nx rows (run rows 0 (low (text.take i)))) (i := l - 1) (by rw [o.nx_len hq]; omega)
    have e3 : run rows 0 (low (text.take (i + 1))) = (nx rows (run rows 0 (low (text.take i)))).getD (l - 1) 0 := by
      rw [List.take_succ, hl]
      show run rows 0 (low (text.take i ++ [l])) = _
      rw [low_snoc, run_append]
      rfl
    refine ⟨_, [.d (mD a b c e rows ends), .d (ns t text), .d (ni (run rows 0 (low (text.take (i + 1))))), .d (ni l)], τ', rfl, ?_, rfl, _, rfl⟩
    rw [e3]
    simp (implicitDefEqProofs := false) only [gN, DL.sSeq, DL.seqO, DL.sIf, DL.sRet, DL.sSet, DL.sExpr, DL.sNo, DL.sNil, DL.sMany, DL.setS, DL.sAsg, DL.bO_pure, DL.dVar, DL.dC, DL.dOp, DL.dCB, DL.dCall, DL.aCons, DL.aNil, DL.dB, DL.bAnd, DL.bOr, DL.bNot, DL.dAnd, DL.dOr, DL.dNot, DL.dNeg, DL.dChain, DL.dIsi, DL.dIsi2, DL.tyD, DL.Ty.isa, DL.dSlice, DL.pNone, DL.pSome, DL.dTup, DL.dOf, DL.fLst, DL.fComp, DL.fItems, DL.wipeS, DL.iSeq, DL.iR1, DL.iR2, DL.iZip, DL.xVal, DL.xNil, DL.dIf, DL.gN, DL.gT, DL.gsN, DL.gsC, DL.aStar, DL.M.pure_bind, DL.M.lift_some, DL.toB_bl, DL.toI_int, DL.fits_map, DL.fits_nil, List.map_cons, List.map_nil, List.replicate, List.cons_append, List.nil_append, Nat.sub_zero, Nat.reduceSub, List.getElem?_cons_zero, List.getElem?_cons_succ, List.length_cons, List.length_nil, Nat.zero_add, Nat.reduceAdd, if_true, List.set_cons_zero, List.set_cons_succ, Option.bind_some, DL.items_tup, DL.items_lst, Bool.false_eq_true, if_false, Bool.not_true, Bool.not_false, Bool.true_and, Bool.and_true, Bool.false_and, DL.dTop, DL.items_sq, DL.len_sq, List.length_map, DL.ix_sq0, DL.ix_sq1, DL.in_ns, DL.nin_ns, DL.eqD_ni, DL.neD_ni, DL.add_ni, DL.lt_ni, DL.le_ni, DL.tuple_sq, DL.int_bl, DL.rangeD_0, Int.toNat_natCast, DL.comp_n, DL.comp_nt, DL.comp_2, DL.comp_2t, DL.mapMM_pure, DL.filtMM_pure, DL.ifp_and, DL.ifp_or, DL.ifd_and, DL.ifd_or, DL.filtMM_yes, e1, e2, sub1_ni hm.1]
  · rintro ρ τ' ⟨rfl, s3, rfl⟩
    rw [List.take_length]
    rfl
theorem v_takes (o : Ok wd rows) {text : List Nat} (ht : Tx wd text) : m_takes [mD a b c e rows ends, ns t text] = M.pure (.bl (acc rows ends 0 (low text))) := by
  refine runG_rt rfl fun τ => ?_
  have h := v_state_after (a := a) (b := b) (c := c) (e := e) (t := t) (ends := ends) o ht
  simp (implicitDefEqProofs := false) only [b_takes, DL.sSeq, DL.seqO, DL.sIf, DL.sRet, DL.sSet, DL.sExpr, DL.sNo, DL.sNil, DL.sMany, DL.setS, DL.sAsg, DL.bO_pure, DL.dVar, DL.dC, DL.dOp, DL.dCB, DL.dCall, DL.aCons, DL.aNil, DL.dB, DL.bAnd, DL.bOr, DL.bNot, DL.dAnd, DL.dOr, DL.dNot, DL.dNeg, DL.dChain, DL.dIsi, DL.dIsi2, DL.tyD, DL.Ty.isa, DL.dSlice, DL.pNone, DL.pSome, DL.dTup, DL.dOf, DL.fLst, DL.fComp, DL.fItems, DL.wipeS, DL.iSeq, DL.iR1, DL.iR2, DL.iZip, DL.xVal, DL.xNil, DL.dIf, DL.gN, DL.gT, DL.gsN, DL.gsC, DL.aStar, DL.M.pure_bind, DL.M.lift_some, DL.toB_bl, DL.toI_int, DL.fits_map, DL.fits_nil, List.map_cons, List.map_nil, List.replicate, List.cons_append, List.nil_append, Nat.sub_zero, Nat.reduceSub, List.getElem?_cons_zero, List.getElem?_cons_succ, List.length_cons, List.length_nil, Nat.zero_add, Nat.reduceAdd, if_true, List.set_cons_zero, List.set_cons_succ, Option.bind_some, DL.items_tup, DL.items_lst, Bool.false_eq_true, if_false, Bool.not_true, Bool.not_false, Bool.true_and, Bool.and_true, Bool.false_and, DL.dTop, DL.items_sq, DL.len_sq, List.length_map, DL.ix_sq0, DL.ix_sq1, DL.in_ns, DL.nin_ns, DL.eqD_ni, DL.neD_ni, DL.add_ni, DL.lt_ni, DL.le_ni, DL.tuple_sq, DL.int_bl, DL.rangeD_0, Int.toNat_natCast, DL.comp_n, DL.comp_nt, DL.comp_2, DL.comp_2t, DL.mapMM_pure, DL.filtMM_pure, DL.ifp_and, DL.ifp_or, DL.ifd_and, DL.ifd_or, DL.filtMM_yes, h]
  rfl

/-! ### come_to, renamed -/
theorem enumN_snoc {α : Type} (xs : List α) (x : α) : enumN (xs ++ [x]) = enumN xs ++ [(xs.length, x)] := by
  unfold enumN
  rw [List.length_append, List.length_singleton, List.range_succ, List.zip_append (by rw [List.length_range])]
  rfl
theorem mem_grow {line gs : List Nat} {x : Nat} : x ∈ grow id line gs ↔ x ∈ line ∨ x ∈ gs := by
  constructor
  · exact grow_of
  · rintro (h | h)
    · exact (grow_pre (key := id) gs line).subset h
    · obtain ⟨y, hy, e⟩ := grow_mem (key := id) gs line x h
      have e : y = x := e
      rw [← e]
      exact hy
theorem grow_snoc (line gs : List Nat) (g : Nat) : grow id line (gs ++ [g]) = if g ∈ line ∨ g ∈ gs then grow id line gs else grow id line gs ++ [g] := by
  have e : grow id line (gs ++ [g]) = add id (grow id line gs) g := by unfold grow; rw [List.foldl_append]; rfl
  have e2 : ((grow id line gs).any fun x => id x == id g) = true ↔ (g ∈ line ∨ g ∈ gs) := by
    rw [← mem_grow, List.any_eq_true]
    exact ⟨fun ⟨x, hx, q⟩ => by have q : x = g := eq_of_beq q; rw [← q]; exact hx, fun h => ⟨g, h, by simp⟩⟩
  rw [e]
  unfold add
  by_cases h : g ∈ line ∨ g ∈ gs
  · rw [if_pos h, if_pos (e2.mpr h)]
  · rw [if_neg h, if_neg fun z => h (e2.mp z)]
/-- what the comprehension puts behind the line -/
theorem grow_is (line gs : List Nat) : line ++ ((enumN gs).filter fun p => !decide (p.2 ∈ line) && !decide (p.2 ∈ gs.take p.1)).map (·.2) = grow id line gs := by
  suffices h : ∀ n, n ≤ gs.length → line ++ ((enumN (gs.take n)).filter fun p => !decide (p.2 ∈ line) && !decide (p.2 ∈ gs.take p.1)).map (·.2) = grow id line (gs.take n) by
    have := h gs.length (Nat.le_refl _)
    rwa [List.take_length] at this
  intro n
  induction n with
  | zero => intro _; simp [enumN, grow]
  | succ n ih =>
    intro hn
    have ih := ih (by omega)
    obtain ⟨g, hg⟩ : ∃ g, gs[n]? = some g := ⟨gs[n], List.getElem?_eq_getElem (by omega)⟩
    have et : gs.take (n + 1) = gs.take n ++ [g] := by rw [List.take_succ, hg]; rfl
    have el : (gs.take n).length = n := by rw [List.length_take]; omega
    rw [et, enumN_snoc, List.filter_append, List.map_append, ← List.append_assoc, ih, grow_snoc, el]
    by_cases h1 : g ∈ line
    · rw [if_pos (.inl h1)]; simp [h1]
    · by_cases h2 : g ∈ gs.take n
      · rw [if_pos (.inr h2)]; simp [h1, h2]
      · rw [if_neg (by simp [h1, h2])]; simp [h1, h2]
theorem size1000 : 1000 ≤ sizeLine := by decide
theorem size2000 : 1000000 ≤ sizeLine := by decide
theorem enum_ns (ρ : DL.Env) {fa : DL.Env → M D} {xs : List Nat} (h : fa ρ = M.pure (ns b xs)) : DL.iEnum fa ρ = M.pure ((enumN xs).map fun p => D.tup [ni p.1, ni p.2]) := enum_sq b fa ρ ni xs h
theorem cut_take (xs : List Nat) (k : Nat) : slD none (some (k : Int)) (ns b xs) = some (ns b (xs.take k)) := by
  rw [sl_sq, cutL_hi xs (by omega)]
  rfl
theorem v_come_to (o : Ok wd rows) {N s : Nat} (hs : s < rows.length) (hN : rows.length ≤ N) (hf : N ≤ 10000) (hw : wd ≤ 1000) : m_come_to [nss b c rows, ni s] = M.pure (.lst ((comeTo N rows s).map ni)) := by
  obtain ⟨L, _, _⟩ := line_of o (key := id) (s := s) (f := N) hs hN
  have L : Line rows id (comeTo N rows s) := L
  have len : (comeTo N rows s).length ≤ rows.length := nodup_le (knd_nodup L.nd) L.lt
  refine runG_rt rfl fun τ => ?_
  have h1 : fLst (aCons (dVar 1) aNil) [.d (nss b c rows), .d (ni s), .un, .un, .un, .un] = M.pure [ni s] := by
    simp (implicitDefEqProofs := false) only [DL.sSeq, DL.seqO, DL.sIf, DL.sRet, DL.sSet, DL.sExpr, DL.sNo, DL.sNil, DL.sMany, DL.setS, DL.sAsg, DL.bO_pure, DL.dVar, DL.dC, DL.dOp, DL.dCB, DL.dCall, DL.aCons, DL.aNil, DL.dB, DL.bAnd, DL.bOr, DL.bNot, DL.dAnd, DL.dOr, DL.dNot, DL.dNeg, DL.dChain, DL.dIsi, DL.dIsi2, DL.tyD, DL.Ty.isa, DL.dSlice, DL.pNone, DL.pSome, DL.dTup, DL.dOf, DL.fLst, DL.fComp, DL.fItems, DL.wipeS, DL.iSeq, DL.iR1, DL.iR2, DL.iZip, DL.xVal, DL.xNil, DL.dIf, DL.gN, DL.gT, DL.gsN, DL.gsC, DL.aStar, DL.M.pure_bind, DL.M.lift_some, DL.toB_bl, DL.toI_int, DL.fits_map, DL.fits_nil, List.map_cons, List.map_nil, List.replicate, List.cons_append, List.nil_append, Nat.sub_zero, Nat.reduceSub, List.getElem?_cons_zero, List.getElem?_cons_succ, List.length_cons, List.length_nil, Nat.zero_add, Nat.reduceAdd, if_true, List.set_cons_zero, List.set_cons_succ, Option.bind_some, DL.items_tup, DL.items_lst, Bool.false_eq_true, if_false, Bool.not_true, Bool.not_false, Bool.true_and, Bool.and_true, Bool.false_and, DL.dTop]
    rfl
  refine st_manyE (ss := [.own [ni s], .d (ni 0)]) (by simp (implicitDefEqProofs := false) only [DL.sSeq, DL.seqO, DL.sIf, DL.sRet, DL.sSet, DL.sExpr, DL.sNo, DL.sNil, DL.sMany, DL.setS, DL.sAsg, DL.bO_pure, DL.dVar, DL.dC, DL.dOp, DL.dCB, DL.dCall, DL.aCons, DL.aNil, DL.dB, DL.bAnd, DL.bOr, DL.bNot, DL.dAnd, DL.dOr, DL.dNot, DL.dNeg, DL.dChain, DL.dIsi, DL.dIsi2, DL.tyD, DL.Ty.isa, DL.dSlice, DL.pNone, DL.pSome, DL.dTup, DL.dOf, DL.fLst, DL.fComp, DL.fItems, DL.wipeS, DL.iSeq, DL.iR1, DL.iR2, DL.iZip, DL.xVal, DL.xNil, DL.dIf, DL.gN, DL.gT, DL.gsN, DL.gsC, DL.aStar, DL.M.pure_bind, DL.M.lift_some, DL.toB_bl, DL.toI_int, DL.fits_map, DL.fits_nil, List.map_cons, List.map_nil, List.replicate, List.cons_append, List.nil_append, Nat.sub_zero, Nat.reduceSub, List.getElem?_cons_zero, List.getElem?_cons_succ, List.length_cons, List.length_nil, Nat.zero_add, Nat.reduceAdd, if_true, List.set_cons_zero, List.set_cons_succ, Option.bind_some, DL.items_tup, DL.items_lst, Bool.false_eq_true, if_false, Bool.not_true, Bool.not_false, Bool.true_and, Bool.and_true, Bool.false_and, DL.dTop, DL.xOwn, h1]; rfl) rfl ?_
  refine st_on (while_nx (fun m ρ τ' => τ' = τ ∧ ∃ t line, m = (comeTo N rows s).length - t ∧ t ≤ N ∧ line <+: comeTo N rows s ∧ bfs id (nx rows) (N - t) t line = comeTo N rows s ∧ ρ = [.d (nss b c rows), .d (ni s), .own (line.map ni), .d (ni t), .un, .un])
    (m := (comeTo N rows s).length) ⟨rfl, 0, [s], rfl, Nat.zero_le _, bfs_pre (key := id) (next := nx rows) N 0 [s], rfl, rfl⟩ (by show _ < 100000; omega) ?_) ?_
  · rintro m ρ τ' ⟨rfl, t, line, rfl, ht, hpre, hb, rfl⟩
    have hl : ltD (ni t) (ni line.length) = some (.bl (decide (t < line.length))) := lt_ni _ _
    have hle := hpre.length_le
    have hcond : dB (dOp ltD (dVar 3) (dCB lenD (aCons (dTop 2) aNil))) [.d (nss b c rows), .d (ni s), .own (line.map ni), .d (ni t), .un, .un] = M.pure (decide (t < line.length)) := by
      have h2 := len_sq false (line.map ni)
      have h2 : lenD [.lst (line.map ni)] = _ := h2
      simp (implicitDefEqProofs := false) only [DL.sSeq, DL.seqO, DL.sIf, DL.sRet, DL.sSet, DL.sExpr, DL.sNo, DL.sNil, DL.sMany, DL.setS, DL.sAsg, DL.bO_pure, DL.dVar, DL.dC, DL.dOp, DL.dCB, DL.dCall, DL.aCons, DL.aNil, DL.dB, DL.bAnd, DL.bOr, DL.bNot, DL.dAnd, DL.dOr, DL.dNot, DL.dNeg, DL.dChain, DL.dIsi, DL.dIsi2, DL.tyD, DL.Ty.isa, DL.dSlice, DL.pNone, DL.pSome, DL.dTup, DL.dOf, DL.fLst, DL.fComp, DL.fItems, DL.wipeS, DL.iSeq, DL.iR1, DL.iR2, DL.iZip, DL.xVal, DL.xNil, DL.dIf, DL.gN, DL.gT, DL.gsN, DL.gsC, DL.aStar, DL.M.pure_bind, DL.M.lift_some, DL.toB_bl, DL.toI_int, DL.fits_map, DL.fits_nil, List.map_cons, List.map_nil, List.replicate, List.cons_append, List.nil_append, Nat.sub_zero, Nat.reduceSub, List.getElem?_cons_zero, List.getElem?_cons_succ, List.length_cons, List.length_nil, Nat.zero_add, Nat.reduceAdd, if_true, List.set_cons_zero, List.set_cons_succ, Option.bind_some, DL.items_tup, DL.items_lst, Bool.false_eq_true, if_false, Bool.not_true, Bool.not_false, Bool.true_and, Bool.and_true, Bool.false_and, DL.dTop, h2, List.length_map, hl]
    by_cases h : t < line.length
    · refine .inr ⟨by omega, by rw [hcond, decide_eq_true h]; rfl, ?_⟩
      have hx : line.getD t 0 < rows.length := L.lt _ (hpre.subset (getD_mem h))
      have e1 : ixD (.lst (line.map ni)) (ni t) = some (ni (line.getD t 0)) := ix_ns (b := false) h
      have e2 := ix_nss (b := b) (c := c) hx
      have hlt : t < N := by omega
      have hbf : bfs id (nx rows) (N - (t + 1)) (t + 1) (grow id line (nx rows (line.getD t 0))) = comeTo N rows s := by
        rw [← hb, show N - t = N - (t + 1) + 1 by omega, bfs, if_pos h]
      have hpre2 : grow id line (nx rows (line.getD t 0)) <+: comeTo N rows s := by rw [← hbf]; exact bfs_pre _ _ _
      have hen : DL.iEnum (dOp ixD (dVar 0) (dOp ixD (dTop 2) (dVar 3))) [.d (nss b c rows), .d (ni s), .own (line.map ni), .d (ni t), .un, .un] = M.pure ((enumN (nx rows (line.getD t 0))).map fun p => D.tup [ni p.1, ni p.2]) := enum_ns (b := c) _ (by
        simp (implicitDefEqProofs := false) only [DL.sSeq, DL.seqO, DL.sIf, DL.sRet, DL.sSet, DL.sExpr, DL.sNo, DL.sNil, DL.sMany, DL.setS, DL.sAsg, DL.bO_pure, DL.dVar, DL.dC, DL.dOp, DL.dCB, DL.dCall, DL.aCons, DL.aNil, DL.dB, DL.bAnd, DL.bOr, DL.bNot, DL.dAnd, DL.dOr, DL.dNot, DL.dNeg, DL.dChain, DL.dIsi, DL.dIsi2, DL.tyD, DL.Ty.isa, DL.dSlice, DL.pNone, DL.pSome, DL.dTup, DL.dOf, DL.fLst, DL.fComp, DL.fItems, DL.wipeS, DL.iSeq, DL.iR1, DL.iR2, DL.iZip, DL.xVal, DL.xNil, DL.dIf, DL.gN, DL.gT, DL.gsN, DL.gsC, DL.aStar, DL.M.pure_bind, DL.M.lift_some, DL.toB_bl, DL.toI_int, DL.fits_map, DL.fits_nil, List.map_cons, List.map_nil, List.replicate, List.cons_append, List.nil_append, Nat.sub_zero, Nat.reduceSub, List.getElem?_cons_zero, List.getElem?_cons_succ, List.length_cons, List.length_nil, Nat.zero_add, Nat.reduceAdd, if_true, List.set_cons_zero, List.set_cons_succ, Option.bind_some, DL.items_tup, DL.items_lst, Bool.false_eq_true, if_false, Bool.not_true, Bool.not_false, Bool.true_and, Bool.and_true, Bool.false_and, DL.dTop, e1, e2])
      have hn : ∀ x, ninD (ni x) (.lst (line.map ni)) = some (.bl (!decide (x ∈ line))) := fun x => nin_ns false x line
      have hfit : fits ((enumN (nx rows (line.getD t 0))).map fun p => D.tup [ni p.1, ni p.2]) = true := fits_map (by rw [enumN_length, o.nx_len hx]; exact Nat.le_trans hw size1000)
      have hcut : ∀ k : Nat, slD none (some (k : Int)) (ns c (nx rows (line.getD t 0))) = some (ns c ((nx rows (line.getD t 0)).take k)) := fun k => cut_take _ _
      have hsz : (line.map ni).length + ((((enumN (nx rows (line.getD t 0))).filter fun p => !decide (p.2 ∈ line) && !decide (p.2 ∈ (nx rows (line.getD t 0)).take p.1)).map (·.2)).map ni).length ≤ sizeLine := by
        have h3 := congrArg List.length (grow_is line (nx rows (line.getD t 0)))
        rw [List.length_append] at h3
        have h4 := hpre2.length_le
        rw [List.length_map, List.length_map]
        exact Nat.le_trans (show _ ≤ 1000000 by omega) size2000
      refine ⟨[.d (nss b c rows), .d (ni s), .own ((grow id line (nx rows (line.getD t 0))).map ni), .d (ni (t + 1)), .un, .un], τ', ?_, rfl, t + 1, _, by omega, by omega, hpre2, hbf, rfl⟩
      have e3 := add_ni t 1
      have e3 : addD (ni t) (.int 1) = _ := e3
      rw [← grow_is]
      simp (implicitDefEqProofs := false) only [List.map_map, Function.comp_def, List.length_map] at hsz
      simp (implicitDefEqProofs := false) only [DL.sSeq, DL.seqO, DL.sIf, DL.sRet, DL.sSet, DL.sExpr, DL.sNo, DL.sNil, DL.sMany, DL.setS, DL.sAsg, DL.bO_pure, DL.dVar, DL.dC, DL.dOp, DL.dCB, DL.dCall, DL.aCons, DL.aNil, DL.dB, DL.bAnd, DL.bOr, DL.bNot, DL.dAnd, DL.dOr, DL.dNot, DL.dNeg, DL.dChain, DL.dIsi, DL.dIsi2, DL.tyD, DL.Ty.isa, DL.dSlice, DL.pNone, DL.pSome, DL.dTup, DL.dOf, DL.fLst, DL.fComp, DL.fItems, DL.wipeS, DL.iSeq, DL.iR1, DL.iR2, DL.iZip, DL.xVal, DL.xNil, DL.dIf, DL.gN, DL.gT, DL.gsN, DL.gsC, DL.aStar, DL.M.pure_bind, DL.M.lift_some, DL.toB_bl, DL.toI_int, DL.fits_map, DL.fits_nil, List.map_cons, List.map_nil, List.replicate, List.cons_append, List.nil_append, Nat.sub_zero, Nat.reduceSub, List.getElem?_cons_zero, List.getElem?_cons_succ, List.length_cons, List.length_nil, Nat.zero_add, Nat.reduceAdd, if_true, List.set_cons_zero, List.set_cons_succ, Option.bind_some, DL.items_tup, DL.items_lst, Bool.false_eq_true, if_false, Bool.not_true, Bool.not_false, Bool.true_and, Bool.and_true, Bool.false_and, DL.dTop, DL.items_sq, DL.len_sq, List.length_map, DL.ix_sq0, DL.ix_sq1, DL.in_ns, DL.nin_ns, DL.eqD_ni, DL.neD_ni, DL.add_ni, DL.lt_ni, DL.le_ni, DL.tuple_sq, DL.int_bl, DL.rangeD_0, Int.toNat_natCast, DL.comp_n, DL.comp_nt, DL.comp_2, DL.comp_2t, DL.mapMM_pure, DL.filtMM_pure, DL.ifp_and, DL.ifp_or, DL.ifd_and, DL.ifd_or, DL.filtMM_yes, hen, hfit, hn, e1, e2, hcut, ownAt, sExt, upOwn, hsz, e3, List.map_append, List.map_map, Function.comp_def]
    · refine .inl ⟨by rw [hcond, decide_eq_false h]; rfl, ?_⟩
      have e : comeTo N rows s = line := by
        rw [← hb]
        cases N - t with
        | zero => rfl
        | succ k => rw [bfs, if_neg h]
      rw [e]
      omega
  · rintro ρ τ' ⟨rfl, t, line, hm, ht, hpre, hb, rfl⟩
    have e : comeTo N rows s = line := by
      rw [← hb]
      have hle := hpre.length_le
      cases N - t with
      | zero => rfl
      | succ k => rw [bfs, if_neg (by omega)]
    rw [e]
    simp (implicitDefEqProofs := false) only [sFrz, frz, DL.sSeq, DL.seqO, DL.sIf, DL.sRet, DL.sSet, DL.sExpr, DL.sNo, DL.sNil, DL.sMany, DL.setS, DL.sAsg, DL.bO_pure, DL.dVar, DL.dC, DL.dOp, DL.dCB, DL.dCall, DL.aCons, DL.aNil, DL.dB, DL.bAnd, DL.bOr, DL.bNot, DL.dAnd, DL.dOr, DL.dNot, DL.dNeg, DL.dChain, DL.dIsi, DL.dIsi2, DL.tyD, DL.Ty.isa, DL.dSlice, DL.pNone, DL.pSome, DL.dTup, DL.dOf, DL.fLst, DL.fComp, DL.fItems, DL.wipeS, DL.iSeq, DL.iR1, DL.iR2, DL.iZip, DL.xVal, DL.xNil, DL.dIf, DL.gN, DL.gT, DL.gsN, DL.gsC, DL.aStar, DL.M.pure_bind, DL.M.lift_some, DL.toB_bl, DL.toI_int, DL.fits_map, DL.fits_nil, List.map_cons, List.map_nil, List.replicate, List.cons_append, List.nil_append, Nat.sub_zero, Nat.reduceSub, List.getElem?_cons_zero, List.getElem?_cons_succ, List.length_cons, List.length_nil, Nat.zero_add, Nat.reduceAdd, if_true, List.set_cons_zero, List.set_cons_succ, Option.bind_some, DL.items_tup, DL.items_lst, Bool.false_eq_true, if_false, Bool.not_true, Bool.not_false, Bool.true_and, Bool.and_true, Bool.false_and, DL.dTop]
/-! ### parts -/
abbrev kf1 (p : Nat × List Nat) : D := .tup (ni p.1 :: p.2.map ni)
def kK (p : Nat × List Nat) : NestedKey := .tup (MA.numOf p.1 :: p.2.map MA.numOf)
theorem toDs_nums (xs : List Nat) : toDs (xs.map MA.numOf) = xs.map ni := by rw [toDs_map, List.map_map]; rfl
theorem numKs_nums : ∀ xs : List Nat, DS.numKs (xs.map MA.numOf) = true
  | [] => rfl
  | x :: xs => by rw [List.map_cons, DS.numKs, numKs_nums xs]; rfl
theorem depth_nums : ∀ xs : List Nat, NestedKey.depthAll (xs.map MA.numOf) = 0
  | [] => rfl
  | x :: xs => by rw [List.map_cons, NestedKey.depthAll, depth_nums xs]; rfl
theorem nums_one : ∀ {xs ys : List Nat}, xs.map MA.numOf = ys.map MA.numOf → xs = ys
  | [], [], _ => rfl
  | [], _ :: _, h => by simp at h
  | _ :: _, [], h => by simp at h
  | x :: xs, y :: ys, h => by
    rw [List.map_cons, List.map_cons, List.cons.injEq, num_inj] at h
    rw [h.1, nums_one h.2]
theorem alike_nums : ∀ xs ys : List Nat, PySem.W.alikeAll (NestedKey.datas (xs.map MA.numOf)) (NestedKey.datas (ys.map MA.numOf)) = true
  | [], ys => by rw [List.map_nil, NestedKey.datas]; cases NestedKey.datas (ys.map MA.numOf) <;> rfl
  | x :: xs, [] => by rw [List.map_nil, NestedKey.datas, List.map_cons, NestedKey.datas]; rfl
  | x :: xs, y :: ys => by rw [List.map_cons, List.map_cons, NestedKey.datas, NestedKey.datas, PySem.W.alikeAll, alike_nums xs ys]; rfl
theorem kcod1 : KCod kf1 kK where
  to := fun a => by unfold kK; rw [toD, toDs, toDs_nums]; rfl
  inj := fun {a b} h => by
    unfold kK at h
    rw [NestedKey.tup.injEq, List.cons.injEq, num_inj] at h
    exact Prod.ext h.1 (nums_one h.2)
  num := fun a => by unfold kK; rw [DS.numK, DS.numKs, numKs_nums]; rfl
  tup := fun a => rfl
  dp := fun a => by unfold kK; rw [NestedKey.depth, NestedKey.depthAll, depth_nums]; show max 0 0 + 1 ≤ 8; decide
  al := fun a b => by
    have := alike_nums (a.1 :: a.2) (b.1 :: b.2)
    unfold kK
    rw [NestedKey.data, NestedKey.data, PySem.W.alike]
    exact this
  ne := fun a => by unfold kK; rw [NestedKey.data, NestedKey.datas]; rfl
theorem cod1 : Cod 1 kf1 := by
  have h := cod_nat.tup
  refine ⟨fun a => h.ok (a.1 :: a.2), fun a b => ?_⟩
  have := h.eq (a.1 :: a.2) (b.1 :: b.2)
  rw [show kf1 a = D.tup ((a.1 :: a.2).map ni) from rfl, show kf1 b = D.tup ((b.1 :: b.2).map ni) from rfl, this]
  refine decide_eq_decide.mpr ?_
  rw [List.cons.injEq]
  exact ⟨fun h => Prod.ext h.1 h.2, fun h => by rw [h]; exact ⟨rfl, rfl⟩⟩
def keyC (rows : Rows) (k : List Nat) (s : Nat) : Nat × List Nat := (k.getD s 0, (nx rows s).map fun g => k.getD g 0)
def keysC (rows : Rows) (k : List Nat) : List (Nat × List Nat) := (List.range rows.length).map (keyC rows k)
theorem keysC_map (k : List Nat) : (keysC rows k).map kK = keysOf kfP rows k := by
  unfold keysC keysOf
  rw [List.map_map]
  refine List.map_congr_left fun s _ => ?_
  show kK (keyC rows k s) = kfP k (nx rows s) s
  unfold kK keyC kfP
  rw [List.map_map]
  rfl
theorem rk_sortC {α : Type} [DecidableEq α] {f : α → D} {K : α → NestedKey} (cc : KCod f K) (xs : List α) (x : α) : rk (xs.map K) (K x) = (sortC K xs).findIdx fun z => decide (z = x) := by
  unfold rk
  rw [← sortC_map cc, List.findIdx_map]
  congr 1
  funext z
  exact decide_eq_decide.mpr ⟨cc.inj, fun e => by rw [e]⟩
theorem rnd_keysC (k : List Nat) : rnd kfP rows k = (keysC rows k).map fun x => (sortC kK (keysC rows k)).findIdx fun z => decide (z = x) := by
  unfold rnd
  rw [← keysC_map, List.map_map]
  exact List.map_congr_left fun x _ => rk_sortC kcod1 (keysC rows k) x
theorem sortI_cnt (xs : List Nat) : (sortI (xs.map Int.ofNat)).length = cnt xs := by
  have h1 : (sortI (xs.map Int.ofNat)).Nodup := (sortI_lt _).imp fun h e => by omega
  have h2 : ((once xs).map Int.ofNat).Nodup := List.pairwise_map.mpr ((once_nodup xs).imp fun h e => h (Int.ofNat.inj e))
  have := (perm_nodup h1 h2 fun z => by
    rw [mem_sortI, List.mem_map, List.mem_map]
    exact ⟨fun ⟨a, ha, e⟩ => ⟨a, mem_once.mpr ha, e⟩, fun ⟨a, ha, e⟩ => ⟨a, mem_once.mp ha, e⟩⟩).length_eq
  rw [this, List.length_map]
  rfl
theorem lenSet_ni {fa : DL.Env → M D} {ρ : DL.Env} {xs : List Nat} (h : fa ρ = M.pure (.lst (xs.map ni))) (hl : xs.length < 64) : dLenSet fa ρ = M.pure (ni (cnt xs)) := by
  unfold dLenSet
  rw [h, M.pure_bind]
  have e : xs.map ni = (xs.map Int.ofNat).map D.int := by rw [List.map_map]; rfl
  show (match intsOf (xs.map ni) with | some ns => if ns.length < 64 then M.pure (D.int (sortI ns).length) else M.no | none => M.no) = _
  rw [e, intsOf_map]
  show (if (xs.map Int.ofNat).length < 64 then M.pure (D.int (sortI (xs.map Int.ofNat)).length) else M.no) = _
  rw [if_pos (by rw [List.length_map]; exact hl), sortI_cnt]
theorem onceC_len {α : Type} [DecidableEq α] : ∀ xs : List α, (onceC xs).length ≤ xs.length
  | [] => Nat.le_refl _
  | x :: xs => by
    have := onceC_len xs
    unfold onceC
    split <;> simp <;> omega
theorem v_parts_of (o : Ok wd rows) {N : Nat} (hN : rows.length ≤ N) (h64 : rows.length < 64) (hw : wd ≤ 1000) : m_parts_of [nss b c rows, ns e ends] = M.pure (.lst ((partsOf N rows ends).map ni)) := by
  have fitR : fits ((List.range rows.length).map fun i : Nat => D.int (i : Int)) = true := fits_map (by rw [List.length_range]; exact Nat.le_trans (by omega) size1000)
  refine runG_rt rfl fun τ => ?_
  have h1 : (rows.map (ns c)).length = rows.length := List.length_map ..
  have hz1 : sMany [2, 3] (xVal (dOf (fComp (iR1 (dCB lenD (aCons (dVar 0) aNil))) [6] (gN 6) bYes (dCB DL.intD (aCons (dOp inD (dVar 6) (dVar 1)) aNil)))) (xVal (dC (.int 0)) xNil)) [.d (nss b c rows), .d (ns e ends), .un, .un, .un, .un, .un, .un, .un] τ =
      .nx [.d (nss b c rows), .d (ns e ends), .d (.lst ((first rows ends).map ni)), .d (ni 0), .un, .un, .un, .un, .un] τ := by
    simp (implicitDefEqProofs := false) only [DL.sSeq, DL.seqO, DL.sIf, DL.sRet, DL.sSet, DL.sExpr, DL.sNo, DL.sNil, DL.sMany, DL.setS, DL.sAsg, DL.bO_pure, DL.dVar, DL.dC, DL.dOp, DL.dCB, DL.dCall, DL.aCons, DL.aNil, DL.dB, DL.bAnd, DL.bOr, DL.bNot, DL.dAnd, DL.dOr, DL.dNot, DL.dNeg, DL.dChain, DL.dIsi, DL.dIsi2, DL.tyD, DL.Ty.isa, DL.dSlice, DL.pNone, DL.pSome, DL.dTup, DL.dOf, DL.fLst, DL.fComp, DL.fItems, DL.wipeS, DL.iSeq, DL.iR1, DL.iR2, DL.iZip, DL.xVal, DL.xNil, DL.dIf, DL.gN, DL.gT, DL.gsN, DL.gsC, DL.aStar, DL.M.pure_bind, DL.M.lift_some, DL.toB_bl, DL.toI_int, DL.fits_map, DL.fits_nil, List.map_cons, List.map_nil, List.replicate, List.cons_append, List.nil_append, Nat.sub_zero, Nat.reduceSub, List.getElem?_cons_zero, List.getElem?_cons_succ, List.length_cons, List.length_nil, Nat.zero_add, Nat.reduceAdd, if_true, List.set_cons_zero, List.set_cons_succ, Option.bind_some, DL.items_tup, DL.items_lst, Bool.false_eq_true, if_false, Bool.not_true, Bool.not_false, Bool.true_and, Bool.and_true, Bool.false_and, DL.dTop, DL.items_sq, DL.len_sq, List.length_map, DL.ix_sq0, DL.ix_sq1, DL.in_ns, DL.nin_ns, DL.eqD_ni, DL.neD_ni, DL.add_ni, DL.lt_ni, DL.le_ni, DL.tuple_sq, DL.int_bl, DL.rangeD_0, Int.toNat_natCast, DL.comp_n, DL.comp_nt, DL.comp_2, DL.comp_2t, DL.mapMM_pure, DL.filtMM_pure, DL.ifp_and, DL.ifp_or, DL.ifd_and, DL.ifd_or, DL.filtMM_yes, fitR, first, List.map_map, Function.comp_def, decide_eq_true_eq]
    rfl
  refine st_do hz1 ?_
  refine st_on (onO_nx (while_on (N := fun ρ τ' => τ' = τ ∧ ∃ many s4 s5, ρ = [.d (nss b c rows), .d (ns e ends), .d (.lst ((partsOf N rows ends).map ni)), many, s4, s5, .un, .un, .un]) (Rt := fun _ _ => False) (Ex := fun _ _ => False)
    (I := fun m ρ τ' => τ' = τ ∧ ∃ f k many s4 s5, m = rows.length + 1 - many ∧ many ≤ rows.length ∧ k.length = rows.length ∧ ploop kfP rows f k many = partsOf N rows ends ∧ rows.length < f + many ∧ ρ = [.d (nss b c rows), .d (ns e ends), .d (.lst (k.map ni)), .d (ni many), s4, s5, .un, .un, .un])
    fuel (rows.length + 1) _ τ ⟨rfl, N + 1, first rows ends, 0, .un, .un, rfl, Nat.zero_le _, by unfold first; rw [List.length_map, List.length_range], rfl, by omega, rfl⟩ (by show _ < 100000; omega) ?_)) ?_
  · rintro m ρ τ' ⟨rfl, f, k, many, s4, s5, rfl, hm, hk, hp, hf, rfl⟩
    have hls : dLenSet (dVar 2) [.d (nss b c rows), .d (ns e ends), .d (.lst (k.map ni)), .d (ni many), s4, s5, .un, .un, .un] = M.pure (ni (cnt k)) := lenSet_ni rfl (by omega)
    have hck := cnt_le k
    refine ⟨decide (many < cnt k), τ', by simp (implicitDefEqProofs := false) only [DL.sSeq, DL.seqO, DL.sIf, DL.sRet, DL.sSet, DL.sExpr, DL.sNo, DL.sNil, DL.sMany, DL.setS, DL.sAsg, DL.bO_pure, DL.dVar, DL.dC, DL.dOp, DL.dCB, DL.dCall, DL.aCons, DL.aNil, DL.dB, DL.bAnd, DL.bOr, DL.bNot, DL.dAnd, DL.dOr, DL.dNot, DL.dNeg, DL.dChain, DL.dIsi, DL.dIsi2, DL.tyD, DL.Ty.isa, DL.dSlice, DL.pNone, DL.pSome, DL.dTup, DL.dOf, DL.fLst, DL.fComp, DL.fItems, DL.wipeS, DL.iSeq, DL.iR1, DL.iR2, DL.iZip, DL.xVal, DL.xNil, DL.dIf, DL.gN, DL.gT, DL.gsN, DL.gsC, DL.aStar, DL.M.pure_bind, DL.M.lift_some, DL.toB_bl, DL.toI_int, DL.fits_map, DL.fits_nil, List.map_cons, List.map_nil, List.replicate, List.cons_append, List.nil_append, Nat.sub_zero, Nat.reduceSub, List.getElem?_cons_zero, List.getElem?_cons_succ, List.length_cons, List.length_nil, Nat.zero_add, Nat.reduceAdd, if_true, List.set_cons_zero, List.set_cons_succ, Option.bind_some, DL.items_tup, DL.items_lst, Bool.false_eq_true, if_false, Bool.not_true, Bool.not_false, Bool.true_and, Bool.and_true, Bool.false_and, DL.dTop, DL.items_sq, DL.len_sq, List.length_map, DL.ix_sq0, DL.ix_sq1, DL.in_ns, DL.nin_ns, DL.eqD_ni, DL.neD_ni, DL.add_ni, DL.lt_ni, DL.le_ni, DL.tuple_sq, DL.int_bl, DL.rangeD_0, Int.toNat_natCast, DL.comp_n, DL.comp_nt, DL.comp_2, DL.comp_2t, DL.mapMM_pure, DL.filtMM_pure, DL.ifp_and, DL.ifp_or, DL.ifd_and, DL.ifd_or, DL.filtMM_yes, hls]; rfl, fun h => ?_, fun h => ?_⟩
    · have h := of_decide_eq_false h
      have e : partsOf N rows ends = k := by
        rw [← hp]
        cases f with
        | zero => rfl
        | succ f => rw [ploop, if_neg h]
      exact ⟨rfl, _, _, _, by rw [e]⟩
    · have h := of_decide_eq_true h
      obtain ⟨f, rfl⟩ : ∃ g, f = g + 1 := ⟨f - 1, by omega⟩
      have hp2 : ploop kfP rows f (rnd kfP rows k) (cnt k) = partsOf N rows ends := by rw [← hp, ploop, if_pos h]
      have hk2 : ∀ i, i < rows.length → ixD (.lst (k.map ni)) (ni i) = some (ni (k.getD i 0)) := fun i hi => ix_ns (b := false) (by rw [hk]; exact hi)
      have hrow : fComp (iR1 (dCB lenD (aCons (dVar 0) aNil))) [6] (gN 6) bYes (dTup (aCons (dOp ixD (dVar 2) (dVar 6)) (aStar (dOf (fComp (iSeq (dOp ixD (dVar 0) (dVar 6))) [8] (gN 8) bYes (dOp ixD (dVar 2) (dVar 8)))) aNil))) [.d (nss b c rows), .d (ns e ends), .d (.lst (k.map ni)), .d (ni (cnt k)), s4, s5, .un, .un, .un] = M.pure ((keysC rows k).map kf1) := by
        have hm : mapMM (fun x => dTup (aCons (dOp ixD (dVar 2) (dVar 6)) (aStar (dOf (fComp (iSeq (dOp ixD (dVar 0) (dVar 6))) [8] (gN 8) bYes (dOp ixD (dVar 2) (dVar 8)))) aNil)) [.d (nss b c rows), .d (ns e ends), .d (.lst (k.map ni)), .d (ni (cnt k)), s4, s5, .d (ni x), .un, .un]) (List.range rows.length) = M.pure ((List.range rows.length).map fun s => kf1 (keyC rows k s)) := mapMM_of fun s hs => by
          have hs := List.mem_range.mp hs
          have e1 := ix_nss (b := b) (c := c) hs
          have hin : mapMM (fun x => dOp ixD (dVar 2) (dVar 8) [.d (nss b c rows), .d (ns e ends), .d (.lst (k.map ni)), .d (ni (cnt k)), s4, s5, .d (ni s), .un, .d (ni x)]) (nx rows s) = M.pure ((nx rows s).map fun g => ni (k.getD g 0)) := mapMM_of fun g hg => by
            have := hk2 g (o.nx_lt hs g hg)
            simp (implicitDefEqProofs := false) only [DL.sSeq, DL.seqO, DL.sIf, DL.sRet, DL.sSet, DL.sExpr, DL.sNo, DL.sNil, DL.sMany, DL.setS, DL.sAsg, DL.bO_pure, DL.dVar, DL.dC, DL.dOp, DL.dCB, DL.dCall, DL.aCons, DL.aNil, DL.dB, DL.bAnd, DL.bOr, DL.bNot, DL.dAnd, DL.dOr, DL.dNot, DL.dNeg, DL.dChain, DL.dIsi, DL.dIsi2, DL.tyD, DL.Ty.isa, DL.dSlice, DL.pNone, DL.pSome, DL.dTup, DL.dOf, DL.fLst, DL.fComp, DL.fItems, DL.wipeS, DL.iSeq, DL.iR1, DL.iR2, DL.iZip, DL.xVal, DL.xNil, DL.dIf, DL.gN, DL.gT, DL.gsN, DL.gsC, DL.aStar, DL.M.pure_bind, DL.M.lift_some, DL.toB_bl, DL.toI_int, DL.fits_map, DL.fits_nil, List.map_cons, List.map_nil, List.replicate, List.cons_append, List.nil_append, Nat.sub_zero, Nat.reduceSub, List.getElem?_cons_zero, List.getElem?_cons_succ, List.length_cons, List.length_nil, Nat.zero_add, Nat.reduceAdd, if_true, List.set_cons_zero, List.set_cons_succ, Option.bind_some, DL.items_tup, DL.items_lst, Bool.false_eq_true, if_false, Bool.not_true, Bool.not_false, Bool.true_and, Bool.and_true, Bool.false_and, DL.dTop, this]
          have hfit : fits ((nx rows s).map ni) = true := fits_map (by rw [o.nx_len hs]; exact Nat.le_trans hw size1000)
          have hfit2 : fits (ni (k.getD s 0) :: (nx rows s).map fun g => ni (k.getD g 0)) = true := fits_le' (by rw [List.length_cons, List.length_map, o.nx_len hs]; exact Nat.le_trans (show _ ≤ 1000000 by omega) size2000)
          simp (implicitDefEqProofs := false) only [DL.sSeq, DL.seqO, DL.sIf, DL.sRet, DL.sSet, DL.sExpr, DL.sNo, DL.sNil, DL.sMany, DL.setS, DL.sAsg, DL.bO_pure, DL.dVar, DL.dC, DL.dOp, DL.dCB, DL.dCall, DL.aCons, DL.aNil, DL.dB, DL.bAnd, DL.bOr, DL.bNot, DL.dAnd, DL.dOr, DL.dNot, DL.dNeg, DL.dChain, DL.dIsi, DL.dIsi2, DL.tyD, DL.Ty.isa, DL.dSlice, DL.pNone, DL.pSome, DL.dTup, DL.dOf, DL.fLst, DL.fComp, DL.fItems, DL.wipeS, DL.iSeq, DL.iR1, DL.iR2, DL.iZip, DL.xVal, DL.xNil, DL.dIf, DL.gN, DL.gT, DL.gsN, DL.gsC, DL.aStar, DL.M.pure_bind, DL.M.lift_some, DL.toB_bl, DL.toI_int, DL.fits_map, DL.fits_nil, List.map_cons, List.map_nil, List.replicate, List.cons_append, List.nil_append, Nat.sub_zero, Nat.reduceSub, List.getElem?_cons_zero, List.getElem?_cons_succ, List.length_cons, List.length_nil, Nat.zero_add, Nat.reduceAdd, if_true, List.set_cons_zero, List.set_cons_succ, Option.bind_some, DL.items_tup, DL.items_lst, Bool.false_eq_true, if_false, Bool.not_true, Bool.not_false, Bool.true_and, Bool.and_true, Bool.false_and, DL.dTop] at hin
          simp (implicitDefEqProofs := false) only [DL.sSeq, DL.seqO, DL.sIf, DL.sRet, DL.sSet, DL.sExpr, DL.sNo, DL.sNil, DL.sMany, DL.setS, DL.sAsg, DL.bO_pure, DL.dVar, DL.dC, DL.dOp, DL.dCB, DL.dCall, DL.aCons, DL.aNil, DL.dB, DL.bAnd, DL.bOr, DL.bNot, DL.dAnd, DL.dOr, DL.dNot, DL.dNeg, DL.dChain, DL.dIsi, DL.dIsi2, DL.tyD, DL.Ty.isa, DL.dSlice, DL.pNone, DL.pSome, DL.dTup, DL.dOf, DL.fLst, DL.fComp, DL.fItems, DL.wipeS, DL.iSeq, DL.iR1, DL.iR2, DL.iZip, DL.xVal, DL.xNil, DL.dIf, DL.gN, DL.gT, DL.gsN, DL.gsC, DL.aStar, DL.M.pure_bind, DL.M.lift_some, DL.toB_bl, DL.toI_int, DL.fits_map, DL.fits_nil, List.map_cons, List.map_nil, List.replicate, List.cons_append, List.nil_append, Nat.sub_zero, Nat.reduceSub, List.getElem?_cons_zero, List.getElem?_cons_succ, List.length_cons, List.length_nil, Nat.zero_add, Nat.reduceAdd, if_true, List.set_cons_zero, List.set_cons_succ, Option.bind_some, DL.items_tup, DL.items_lst, Bool.false_eq_true, if_false, Bool.not_true, Bool.not_false, Bool.true_and, Bool.and_true, Bool.false_and, DL.dTop, DL.items_sq, DL.comp_n, e1, hk2 s hs, hfit, hin, List.append_nil, hfit2, keyC, kf1, List.map_map, Function.comp_def]
        have e2 : (keysC rows k).map kf1 = (List.range rows.length).map fun s => kf1 (keyC rows k s) := by unfold keysC; rw [List.map_map]; rfl
        refine fComp_of (ds := (List.range rows.length).map fun i : Nat => D.int (i : Int)) ?_ ?_ ?_
        · simp (implicitDefEqProofs := false) only [DL.sSeq, DL.seqO, DL.sIf, DL.sRet, DL.sSet, DL.sExpr, DL.sNo, DL.sNil, DL.sMany, DL.setS, DL.sAsg, DL.bO_pure, DL.dVar, DL.dC, DL.dOp, DL.dCB, DL.dCall, DL.aCons, DL.aNil, DL.dB, DL.bAnd, DL.bOr, DL.bNot, DL.dAnd, DL.dOr, DL.dNot, DL.dNeg, DL.dChain, DL.dIsi, DL.dIsi2, DL.tyD, DL.Ty.isa, DL.dSlice, DL.pNone, DL.pSome, DL.dTup, DL.dOf, DL.fLst, DL.fComp, DL.fItems, DL.wipeS, DL.iSeq, DL.iR1, DL.iR2, DL.iZip, DL.xVal, DL.xNil, DL.dIf, DL.gN, DL.gT, DL.gsN, DL.gsC, DL.aStar, DL.M.pure_bind, DL.M.lift_some, DL.toB_bl, DL.toI_int, DL.fits_map, DL.fits_nil, List.map_cons, List.map_nil, List.replicate, List.cons_append, List.nil_append, Nat.sub_zero, Nat.reduceSub, List.getElem?_cons_zero, List.getElem?_cons_succ, List.length_cons, List.length_nil, Nat.zero_add, Nat.reduceAdd, if_true, List.set_cons_zero, List.set_cons_succ, Option.bind_some, DL.items_tup, DL.items_lst, Bool.false_eq_true, if_false, Bool.not_true, Bool.not_false, Bool.true_and, Bool.and_true, Bool.false_and, DL.dTop, DL.items_sq, DL.len_sq, List.length_map, DL.ix_sq0, DL.ix_sq1, DL.in_ns, DL.nin_ns, DL.eqD_ni, DL.neD_ni, DL.add_ni, DL.lt_ni, DL.le_ni, DL.tuple_sq, DL.int_bl, DL.rangeD_0, Int.toNat_natCast, DL.comp_n, DL.comp_nt, DL.comp_2, DL.comp_2t, DL.mapMM_pure, DL.filtMM_pure, DL.ifp_and, DL.ifp_or, DL.ifd_and, DL.ifd_or, DL.filtMM_yes]
        · rw [List.length_map, List.length_range]; exact Nat.le_trans (by omega) size1000
        · rw [comp_n, e2]
          exact hm
      have hkl : (keysC rows k).length = rows.length := by unfold keysC; rw [List.length_map, List.length_range]
      have hso : ∀ s5, fSortSet (dVar 4) [.d (nss b c rows), .d (ns e ends), .d (.lst (k.map ni)), .d (ni (cnt k)), .d (.lst ((keysC rows k).map kf1)), s5, .un, .un, .un] = M.pure ((sortC kK (keysC rows k)).map kf1) := fun s5 => fSortSet_cod kcod1 (b := false) rfl (by have := onceC_len (keysC rows k); omega)
      have hix : fComp (iSeq (dVar 4)) [7] (gN 7) bYes (dIndex (dVar 5) (dVar 7)) [.d (nss b c rows), .d (ns e ends), .d (.lst (k.map ni)), .d (ni (cnt k)), .d (.lst ((keysC rows k).map kf1)), .d (.lst ((sortC kK (keysC rows k)).map kf1)), .un, .un, .un] = M.pure ((rnd kfP rows k).map ni) := by
        refine fComp_of (ds := (keysC rows k).map kf1) rfl ?_ ?_
        · rw [List.length_map, hkl]; exact Nat.le_trans (by omega) size1000
        · rw [comp_n, rnd_keysC, List.map_map]
          exact mapMM_of fun x hx => dIndex_cod cod1 (by omega) (xs := sortC kK (keysC rows k)) (a := x) rfl rfl (findIdx?_mem (mem_sortC.mpr hx))
      have hB : ∀ X, X = O.nx [.d (nss b c rows), .d (ns e ends), .d (.lst ((rnd kfP rows k).map ni)), .d (ni (cnt k)), .d (.lst ((keysC rows k).map kf1)), .d (.lst ((sortC kK (keysC rows k)).map kf1)), .un, .un, .un] τ' →
          onB X (fun ρ2 τ2 => ∃ m', m' < rows.length + 1 - many ∧ τ2 = τ' ∧ ∃ f k many s4 s5, m' = rows.length + 1 - many ∧ many ≤ rows.length ∧ k.length = rows.length ∧ ploop kfP rows f k many = partsOf N rows ends ∧ rows.length < f + many ∧ ρ2 = [.d (nss b c rows), .d (ns e ends), .d (.lst (k.map ni)), .d (ni many), s4, s5, .un, .un, .un]) (fun ρ τ_1 => τ_1 = τ' ∧ ∃ many s4 s5, ρ = [.d (nss b c rows), .d (ns e ends), .d (.lst ((partsOf N rows ends).map ni)), many, s4, s5, .un, .un, .un]) (fun _ _ => False) fun _ _ => False := fun X e => by
        rw [e]
        exact ⟨rows.length + 1 - cnt k, by omega, rfl, f, rnd kfP rows k, cnt k, _, _, rfl, by omega, rnd_len, hp2, by omega, rfl⟩
      refine hB _ ?_
      refine st_set hls ?_
      refine st_setF hrow ?_
      refine st_set (d := .lst ((sortC kK (keysC rows k)).map kf1)) (by simp (implicitDefEqProofs := false) only [DL.dOf, DL.M.pure_bind, List.set_cons_zero, List.set_cons_succ, hso]) ?_
      simp (implicitDefEqProofs := false) only [DL.sSet, DL.dOf, List.set_cons_zero, List.set_cons_succ, hix, DL.M.pure_bind, DL.bO_pure]
  · rintro ρ τ' ⟨rfl, many, s4, s5, rfl⟩
    rfl
/-! ### renamed, least -/
theorem putI_new {ps : List (Int × Int)} {i j : Int} (h : ∀ p ∈ ps, p.1 ≠ i) : putI ps i j = ps ++ [(i, j)] := by
  unfold putI
  rw [if_neg]
  intro z
  obtain ⟨p, hp, e⟩ := List.any_eq_true.mp z
  exact h p hp (of_decide_eq_true e)
theorem dc_num {s0 s1 s2 s3 s4 s5 s6 s7 s8 : S} : ∀ (xs : List (Nat × Nat)) (ps : List (Int × Int)), (xs.map (·.2)).Nodup → (∀ p ∈ ps, ∀ x ∈ xs, p.1 ≠ (x.2 : Int)) →
    dcM (gT 2 (gsC (gN 6) (gsC (gN 7) gsN))) bYes (dVar 7) (dVar 6) (xs.map fun p => D.tup [ni p.1, ni p.2]) [s0, s1, s2, s3, s4, s5, s6, s7, s8] ps = M.pure (ps ++ xs.map fun p => ((p.2 : Int), (p.1 : Int)))
  | [], ps, _, _ => by rw [List.map_nil, List.map_nil, List.append_nil]; rfl
  | x :: xs, ps, nd, h => by
    rw [List.map_cons, List.nodup_cons] at nd
    have ih := dc_num (s0 := s0) (s1 := s1) (s2 := s2) (s3 := s3) (s4 := s4) (s5 := s5) (s6 := s6) (s7 := s7) (s8 := s8) xs (ps ++ [((x.2 : Int), (x.1 : Int))]) nd.2 fun p hp y hy => by
      rcases List.mem_append.mp hp with hp | hp
      · exact h p hp y (List.mem_cons_of_mem _ hy)
      · obtain rfl := List.mem_singleton.mp hp
        intro e
        have e : x.2 = y.2 := Int.ofNat.inj e
        exact nd.1 (by rw [e]; exact List.mem_map.mpr ⟨y, hy, rfl⟩)
    rw [List.map_cons, List.map_cons, List.append_cons, ← ih, ← putI_new fun p hp => h p hp x List.mem_cons_self]
    rfl
theorem find_num {line : List Nat} {g : Nat} (h : g ∈ line) : ixD (.dct ((enumN line).map fun p => ((p.2 : Int), (p.1 : Int)))) (ni g) = some (ni (idx id line g)) := by
  have hl : idx id line g < line.length := idx_lt (key := id) ⟨g, h, rfl⟩
  have hk : line.getD (idx id line g) 0 = g := idx_key (key := id) (line := line) ⟨g, h, rfl⟩
  show (List.find? (fun p : Int × Int => decide (p.1 = (g : Int))) _).map _ = _
  have : ((enumN line).map fun p : Nat × Nat => ((p.2 : Int), (p.1 : Int))).find? (fun p => decide (p.1 = (g : Int))) = some ((g : Int), ((idx id line g : Nat) : Int)) := by
    rw [List.find?_map, Option.map_eq_some_iff]
    refine ⟨(idx id line g, g), ?_, rfl⟩
    rw [List.find?_eq_some_iff_getElem]
    refine ⟨by simp [Function.comp], idx id line g, by rw [enumN_length]; exact hl, ?_, fun j hj => ?_⟩
    · unfold enumN
      rw [List.getElem_zip, List.getElem_range]
      rw [List.getD_eq_getElem?_getD, List.getElem?_eq_getElem hl] at hk
      exact Prod.ext rfl hk
    · have hj2 : j < line.length := by omega
      have := List.not_of_lt_findIdx (p := fun x => id x == id g) (xs := line) (i := j) hj
      unfold enumN
      rw [List.getElem_zip]
      simp only [Function.comp, Bool.not_eq_true', decide_eq_false_iff_not]
      intro e
      have e : line[j] = g := Int.ofNat.inj e
      rw [e] at this
      simp at this
  rw [this]
  rfl
theorem enum_filter_num (line : List Nat) (p : Nat → Bool) : ((enumN line).filter fun x => p x.2).map (·.1) = (List.range line.length).filter fun i => p (line.getD i 0) := by
  have e : enumN line = (List.range line.length).map fun i => (i, line.getD i 0) := by
    unfold enumN
    refine List.ext_getElem (by rw [List.length_zip, List.length_map, List.length_range, Nat.min_self]) fun i h1 h2 => ?_
    have h3 : i < line.length := by rw [List.length_map, List.length_range] at h2; exact h2
    rw [List.getElem_zip, List.getElem_map, List.getElem_range, List.getD_eq_getElem?_getD, List.getElem?_eq_getElem h3]
    rfl
  rw [e, List.filter_map, List.map_map]
  show List.map (fun i => i) _ = _
  rw [List.map_id']
  rfl
theorem v_renamed (o : Ok wd rows) {N s : Nat} (hs : s < rows.length) (hN : rows.length ≤ N) (hf : N ≤ 10000) (hw : wd ≤ 1000) : m_renamed [nss b c rows, ns e ends, ni s] = M.pure (mD true true true true (renR N rows s) (renE N rows ends s)) := by
  obtain ⟨L, _, _⟩ := line_of o (key := id) (s := s) (f := N) hs hN
  have L : Line rows id (comeTo N rows s) := L
  have len : (comeTo N rows s).length ≤ rows.length := nodup_le (knd_nodup L.nd) L.lt
  have hfit : fits ((enumN (comeTo N rows s)).map fun p => D.tup [ni p.1, ni p.2]) = true := fits_map (by rw [enumN_length]; exact Nat.le_trans (show _ ≤ 1000000 by omega) size2000)
  have hfit2 : fits ((comeTo N rows s).map ni) = true := fits_map (Nat.le_trans (show _ ≤ 1000000 by omega) size2000)
  have hdc : ∀ {s0 s1 s2 s3 s4 s5 s6 s7 s8 : S}, dcM (gT 2 (gsC (gN 6) (gsC (gN 7) gsN))) bYes (dVar 7) (dVar 6) ((enumN (comeTo N rows s)).map fun p => D.tup [ni p.1, ni p.2]) [s0, s1, s2, s3, s4, s5, s6, s7, s8] [] = M.pure ((enumN (comeTo N rows s)).map fun p => ((p.2 : Int), (p.1 : Int))) := by
    intro s0 s1 s2 s3 s4 s5 s6 s7 s8
    rw [dc_num _ _ ?_ fun p hp => by cases hp]
    · rfl
    · unfold enumN
      rw [List.map_snd_zip (by rw [List.length_range]; exact Nat.le_refl _)]
      exact knd_nodup L.nd
  refine runG_rt rfl fun τ => ?_
  have hv := v_come_to (b := b) (c := c) o hs hN hf hw
  have hen : ∀ {s0 s1 s2 s4 s5 s6 s7 s8 : S}, DL.iEnum (dVar 3) [s0, s1, s2, .d (.lst ((comeTo N rows s).map ni)), s4, s5, s6, s7, s8] = M.pure ((enumN (comeTo N rows s)).map fun p => D.tup [ni p.1, ni p.2]) := fun {s0 s1 s2 s4 s5 s6 s7 s8} => enum_ns (b := false) _ rfl
  have hdc1 : dDc (DL.iEnum (dVar 3)) [6, 7] (gT 2 (gsC (gN 6) (gsC (gN 7) gsN))) bYes (dVar 7) (dVar 6) [.d (nss b c rows), .d (ns e ends), .d (ni s), .d (.lst ((comeTo N rows s).map ni)), .un, .un, .un, .un, .un] = M.pure (.dct ((enumN (comeTo N rows s)).map fun p => ((p.2 : Int), (p.1 : Int)))) := by
    unfold dDc
    rw [hen, M.pure_bind, if_pos hfit]
    simp (implicitDefEqProofs := false) only [DL.sSeq, DL.seqO, DL.sIf, DL.sRet, DL.sSet, DL.sExpr, DL.sNo, DL.sNil, DL.sMany, DL.setS, DL.sAsg, DL.bO_pure, DL.dVar, DL.dC, DL.dOp, DL.dCB, DL.dCall, DL.aCons, DL.aNil, DL.dB, DL.bAnd, DL.bOr, DL.bNot, DL.dAnd, DL.dOr, DL.dNot, DL.dNeg, DL.dChain, DL.dIsi, DL.dIsi2, DL.tyD, DL.Ty.isa, DL.dSlice, DL.pNone, DL.pSome, DL.dTup, DL.dOf, DL.fLst, DL.fComp, DL.fItems, DL.wipeS, DL.iSeq, DL.iR1, DL.iR2, DL.iZip, DL.xVal, DL.xNil, DL.dIf, DL.gN, DL.gT, DL.gsN, DL.gsC, DL.aStar, DL.M.pure_bind, DL.M.lift_some, DL.toB_bl, DL.toI_int, DL.fits_map, DL.fits_nil, List.map_cons, List.map_nil, List.replicate, List.cons_append, List.nil_append, Nat.sub_zero, Nat.reduceSub, List.getElem?_cons_zero, List.getElem?_cons_succ, List.length_cons, List.length_nil, Nat.zero_add, Nat.reduceAdd, if_true, List.set_cons_zero, List.set_cons_succ, Option.bind_some, DL.items_tup, DL.items_lst, Bool.false_eq_true, if_false, Bool.not_true, Bool.not_false, Bool.true_and, Bool.and_true, Bool.false_and, DL.dTop, hdc]
  have hrow : ∀ {s5 s6 s7 s8 : S}, mapMM (fun x => dCB tupleD (aCons (dOf (fComp (iSeq (dOp ixD (dVar 0) (dVar 7))) [8] (gN 8) bYes (dOp ixD (dVar 4) (dVar 8)))) aNil) [.d (nss b c rows), .d (ns e ends), .d (ni s), .d (.lst ((comeTo N rows s).map ni)), .d (.dct ((enumN (comeTo N rows s)).map fun p => ((p.2 : Int), (p.1 : Int)))), s5, s6, .d (ni x), s8]) (comeTo N rows s) = M.pure ((comeTo N rows s).map fun x => ns true ((nx rows x).map (idx id (comeTo N rows s)))) := fun {s5 s6 s7 s8} => mapMM_of fun x hx => by
    have hxl := L.lt x hx
    have e1 := ix_nss (b := b) (c := c) hxl
    have hfit3 : fits ((nx rows x).map ni) = true := fits_map (by rw [o.nx_len hxl]; exact Nat.le_trans hw size1000)
    have hin : mapMM (fun y => M.lift (ixD (.dct ((enumN (comeTo N rows s)).map fun p => ((p.2 : Int), (p.1 : Int)))) (ni y))) (nx rows x) = M.pure ((nx rows x).map fun y => ni (idx id (comeTo N rows s) y)) := mapMM_of fun y hy => by
      obtain ⟨z, hz, ez⟩ := L.shut x hx y hy
      have ez : z = y := ez
      rw [find_num (by rw [← ez]; exact hz)]
      rfl
    simp (implicitDefEqProofs := false) only [DL.sSeq, DL.seqO, DL.sIf, DL.sRet, DL.sSet, DL.sExpr, DL.sNo, DL.sNil, DL.sMany, DL.setS, DL.sAsg, DL.bO_pure, DL.dVar, DL.dC, DL.dOp, DL.dCB, DL.dCall, DL.aCons, DL.aNil, DL.dB, DL.bAnd, DL.bOr, DL.bNot, DL.dAnd, DL.dOr, DL.dNot, DL.dNeg, DL.dChain, DL.dIsi, DL.dIsi2, DL.tyD, DL.Ty.isa, DL.dSlice, DL.pNone, DL.pSome, DL.dTup, DL.dOf, DL.fLst, DL.fComp, DL.fItems, DL.wipeS, DL.iSeq, DL.iR1, DL.iR2, DL.iZip, DL.xVal, DL.xNil, DL.dIf, DL.gN, DL.gT, DL.gsN, DL.gsC, DL.aStar, DL.M.pure_bind, DL.M.lift_some, DL.toB_bl, DL.toI_int, DL.fits_map, DL.fits_nil, List.map_cons, List.map_nil, List.replicate, List.cons_append, List.nil_append, Nat.sub_zero, Nat.reduceSub, List.getElem?_cons_zero, List.getElem?_cons_succ, List.length_cons, List.length_nil, Nat.zero_add, Nat.reduceAdd, if_true, List.set_cons_zero, List.set_cons_succ, Option.bind_some, DL.items_tup, DL.items_lst, Bool.false_eq_true, if_false, Bool.not_true, Bool.not_false, Bool.true_and, Bool.and_true, Bool.false_and, DL.dTop, DL.items_sq, DL.len_sq, List.length_map, DL.ix_sq0, DL.ix_sq1, DL.in_ns, DL.nin_ns, DL.eqD_ni, DL.neD_ni, DL.add_ni, DL.lt_ni, DL.le_ni, DL.tuple_sq, DL.int_bl, DL.rangeD_0, Int.toNat_natCast, DL.comp_n, DL.comp_nt, DL.comp_2, DL.comp_2t, DL.mapMM_pure, DL.filtMM_pure, DL.ifp_and, DL.ifp_or, DL.ifd_and, DL.ifd_or, DL.filtMM_yes, e1, hfit3, hin, tupleD]
    show M.pure (D.tup _) = M.pure (D.tup (((nx rows x).map (idx id (comeTo N rows s))).map ni))
    rw [List.map_map]
    rfl
  refine st_set (d := .lst ((comeTo N rows s).map ni)) (by simp (implicitDefEqProofs := false) only [DL.sSeq, DL.seqO, DL.sIf, DL.sRet, DL.sSet, DL.sExpr, DL.sNo, DL.sNil, DL.sMany, DL.setS, DL.sAsg, DL.bO_pure, DL.dVar, DL.dC, DL.dOp, DL.dCB, DL.dCall, DL.aCons, DL.aNil, DL.dB, DL.bAnd, DL.bOr, DL.bNot, DL.dAnd, DL.dOr, DL.dNot, DL.dNeg, DL.dChain, DL.dIsi, DL.dIsi2, DL.tyD, DL.Ty.isa, DL.dSlice, DL.pNone, DL.pSome, DL.dTup, DL.dOf, DL.fLst, DL.fComp, DL.fItems, DL.wipeS, DL.iSeq, DL.iR1, DL.iR2, DL.iZip, DL.xVal, DL.xNil, DL.dIf, DL.gN, DL.gT, DL.gsN, DL.gsC, DL.aStar, DL.M.pure_bind, DL.M.lift_some, DL.toB_bl, DL.toI_int, DL.fits_map, DL.fits_nil, List.map_cons, List.map_nil, List.replicate, List.cons_append, List.nil_append, Nat.sub_zero, Nat.reduceSub, List.getElem?_cons_zero, List.getElem?_cons_succ, List.length_cons, List.length_nil, Nat.zero_add, Nat.reduceAdd, if_true, List.set_cons_zero, List.set_cons_succ, Option.bind_some, DL.items_tup, DL.items_lst, Bool.false_eq_true, if_false, Bool.not_true, Bool.not_false, Bool.true_and, Bool.and_true, Bool.false_and, DL.dTop, hv]) ?_
  refine st_set hdc1 ?_
  refine st_set (d := nss true true (renR N rows s)) ?_ ?_
  · simp (implicitDefEqProofs := false) only [DL.sSeq, DL.seqO, DL.sIf, DL.sRet, DL.sSet, DL.sExpr, DL.sNo, DL.sNil, DL.sMany, DL.setS, DL.sAsg, DL.bO_pure, DL.dVar, DL.dC, DL.dOp, DL.dCB, DL.dCall, DL.aCons, DL.aNil, DL.dB, DL.bAnd, DL.bOr, DL.bNot, DL.dAnd, DL.dOr, DL.dNot, DL.dNeg, DL.dChain, DL.dIsi, DL.dIsi2, DL.tyD, DL.Ty.isa, DL.dSlice, DL.pNone, DL.pSome, DL.dTup, DL.dOf, DL.fLst, DL.fComp, DL.fItems, DL.wipeS, DL.iSeq, DL.iR1, DL.iR2, DL.iZip, DL.xVal, DL.xNil, DL.dIf, DL.gN, DL.gT, DL.gsN, DL.gsC, DL.aStar, DL.M.pure_bind, DL.M.lift_some, DL.toB_bl, DL.toI_int, DL.fits_map, DL.fits_nil, List.map_cons, List.map_nil, List.replicate, List.cons_append, List.nil_append, Nat.sub_zero, Nat.reduceSub, List.getElem?_cons_zero, List.getElem?_cons_succ, List.length_cons, List.length_nil, Nat.zero_add, Nat.reduceAdd, if_true, List.set_cons_zero, List.set_cons_succ, Option.bind_some, DL.items_tup, DL.items_lst, Bool.false_eq_true, if_false, Bool.not_true, Bool.not_false, Bool.true_and, Bool.and_true, Bool.false_and, DL.dTop, hfit2, comp_n] at hrow ⊢
    rw [hrow (s7 := .un) (s8 := .un)]
    simp (implicitDefEqProofs := false) only [DL.sSeq, DL.seqO, DL.sIf, DL.sRet, DL.sSet, DL.sExpr, DL.sNo, DL.sNil, DL.sMany, DL.setS, DL.sAsg, DL.bO_pure, DL.dVar, DL.dC, DL.dOp, DL.dCB, DL.dCall, DL.aCons, DL.aNil, DL.dB, DL.bAnd, DL.bOr, DL.bNot, DL.dAnd, DL.dOr, DL.dNot, DL.dNeg, DL.dChain, DL.dIsi, DL.dIsi2, DL.tyD, DL.Ty.isa, DL.dSlice, DL.pNone, DL.pSome, DL.dTup, DL.dOf, DL.fLst, DL.fComp, DL.fItems, DL.wipeS, DL.iSeq, DL.iR1, DL.iR2, DL.iZip, DL.xVal, DL.xNil, DL.dIf, DL.gN, DL.gT, DL.gsN, DL.gsC, DL.aStar, DL.M.pure_bind, DL.M.lift_some, DL.toB_bl, DL.toI_int, DL.fits_map, DL.fits_nil, List.map_cons, List.map_nil, List.replicate, List.cons_append, List.nil_append, Nat.sub_zero, Nat.reduceSub, List.getElem?_cons_zero, List.getElem?_cons_succ, List.length_cons, List.length_nil, Nat.zero_add, Nat.reduceAdd, if_true, List.set_cons_zero, List.set_cons_succ, Option.bind_some, DL.items_tup, DL.items_lst, Bool.false_eq_true, if_false, Bool.not_true, Bool.not_false, Bool.true_and, Bool.and_true, Bool.false_and, DL.dTop, tupleD]
    show M.pure (D.tup _) = M.pure (D.tup (((comeTo N rows s).map fun x => (nx rows x).map (idx id (comeTo N rows s))).map (ns true)))
    rw [List.map_map]
    rfl
  · have hin : ∀ x : Nat, inD (ni x) (ns e ends) = some (.bl (decide (x ∈ ends))) := fun x => in_ns e x ends
    have ef := enum_filter_num (comeTo N rows s) fun x => decide (x ∈ ends)
    have hfit4 : ∀ x y : D, fits [x, y] = true := fun _ _ => rfl
    simp (implicitDefEqProofs := false) only [DL.sSeq, DL.seqO, DL.sIf, DL.sRet, DL.sSet, DL.sExpr, DL.sNo, DL.sNil, DL.sMany, DL.setS, DL.sAsg, DL.bO_pure, DL.dVar, DL.dC, DL.dOp, DL.dCB, DL.dCall, DL.aCons, DL.aNil, DL.dB, DL.bAnd, DL.bOr, DL.bNot, DL.dAnd, DL.dOr, DL.dNot, DL.dNeg, DL.dChain, DL.dIsi, DL.dIsi2, DL.tyD, DL.Ty.isa, DL.dSlice, DL.pNone, DL.pSome, DL.dTup, DL.dOf, DL.fLst, DL.fComp, DL.fItems, DL.wipeS, DL.iSeq, DL.iR1, DL.iR2, DL.iZip, DL.xVal, DL.xNil, DL.dIf, DL.gN, DL.gT, DL.gsN, DL.gsC, DL.aStar, DL.M.pure_bind, DL.M.lift_some, DL.toB_bl, DL.toI_int, DL.fits_map, DL.fits_nil, List.map_cons, List.map_nil, List.replicate, List.cons_append, List.nil_append, Nat.sub_zero, Nat.reduceSub, List.getElem?_cons_zero, List.getElem?_cons_succ, List.length_cons, List.length_nil, Nat.zero_add, Nat.reduceAdd, if_true, List.set_cons_zero, List.set_cons_succ, Option.bind_some, DL.items_tup, DL.items_lst, Bool.false_eq_true, if_false, Bool.not_true, Bool.not_false, Bool.true_and, Bool.and_true, Bool.false_and, DL.dTop, DL.items_sq, DL.len_sq, List.length_map, DL.ix_sq0, DL.ix_sq1, DL.in_ns, DL.nin_ns, DL.eqD_ni, DL.neD_ni, DL.add_ni, DL.lt_ni, DL.le_ni, DL.tuple_sq, DL.int_bl, DL.rangeD_0, Int.toNat_natCast, DL.comp_n, DL.comp_nt, DL.comp_2, DL.comp_2t, DL.mapMM_pure, DL.filtMM_pure, DL.ifp_and, DL.ifp_or, DL.ifd_and, DL.ifd_or, DL.filtMM_yes, hen, hfit, hin, tupleD, hfit4]
    show O.rt (D.tup [_, D.tup (((enumN (comeTo N rows s)).filter fun x => decide (x.2 ∈ ends)).map fun x => ni x.1)]) τ = _
    rw [show (((enumN (comeTo N rows s)).filter fun x => decide (x.2 ∈ ends)).map fun x => ni x.1) = (((enumN (comeTo N rows s)).filter fun x => decide (x.2 ∈ ends)).map (·.1)).map ni from by rw [List.map_map]; rfl, ef]
    rfl
/-! ### the least machine -/
theorem max_ni {k : List Nat} {m : Nat} (h1 : ∀ x ∈ k, x < m) (h2 : m - 1 ∈ k) (h3 : 0 < m) : maxLD [.lst (k.map ni)] = some (ni (m - 1)) := by
  have e : k.map ni = (k.map Int.ofNat).map D.int := by rw [List.map_map]; rfl
  show (intsOf (k.map ni)).bind _ = _
  rw [e, intsOf_map]
  show (maxOf (k.map Int.ofNat)).map D.int = _
  have ne : k.map Int.ofNat ≠ [] := fun z => by
    rw [List.map_eq_nil_iff] at z
    rw [z] at h2
    cases h2
  obtain ⟨z, hz⟩ : ∃ z, maxOf (k.map Int.ofNat) = some z := by
    cases q : k.map Int.ofNat with
    | nil => exact absurd q ne
    | cons x xs => exact ⟨_, rfl⟩
  have := maxOf_is hz (m' := ((m - 1 : Nat) : Int)) (List.mem_map.mpr ⟨_, h2, rfl⟩) fun y hy => by
    obtain ⟨x, hx, rfl⟩ := List.mem_map.mp hy
    have := h1 x hx
    show (x : Int) ≤ _
    omega
  rw [hz, ← this]
  rfl
theorem head_idx {k : List Nat} {j : Nat} (h : j ∈ k) : k.findIdx? (fun z => decide (z = j)) = some (MA.head k j) := by
  rw [findIdx?_mem h]
  rfl
theorem v_least_of (o : Ok wd rows) {N : Nat} (hN : rows.length ≤ N) (hf : N ≤ 10000) (h64 : rows.length < 64) (hw : wd ≤ 1000) : m_least_of [nss b c rows, ns e ends, ni 0] = M.pure (mD true true true true (leastR N rows ends) (leastE N rows ends)) := by
  obtain ⟨L, _, _⟩ := line_of o (key := id) (s := 0) (f := N) o.pos hN
  have o1 : Ok wd (renR N rows 0) := can_ok o L
  have l0 : (renR N rows 0).length ≤ rows.length := by
    unfold renR
    rw [can_len]
    exact nodup_le (knd_nodup L.nd) L.lt
  have hr := v_renamed (b := b) (c := c) (e := e) (ends := ends) o o.pos hN hf hw
  have hp := v_parts_of (b := true) (c := true) (e := true) (ends := renE N rows ends 0) o1 (N := N) (by omega) (by omega) hw
  obtain ⟨c1, e1, P⟩ := ploop_parts (ends := renE N rows ends 0) tells_P o1 (f := N) (by omega)
  have mpos := parts_pos o1 P
  have hx := mx_is P.lt P.hit mpos
  have ec : partsOf N (renR N rows 0) (renE N rows ends 0) = rnd kfP (renR N rows 0) c1 := e1
  generalize hk : rnd kfP (renR N rows 0) c1 = k at P hx ec
  generalize hm : size (keysOf kfP (renR N rows 0) c1) = m at P hx mpos
  rw [ec] at hp
  have ml : m ≤ k.length := by
    have := List.Nodup.length_le_of_subset (List.nodup_range (n := m)) fun j hj => P.hit j (List.mem_range.mp hj)
    rwa [List.length_range] at this
  have kl := P.len
  have lR : leastR N rows ends = renR N (thinR (renR N rows 0) k m) (k.getD 0 0) := by unfold leastR; simp only [ec, hx]
  have lE : leastE N rows ends = renE N (thinR (renR N rows 0) k m) (thinE (renE N rows ends 0) k m) (k.getD 0 0) := by unfold leastE; simp only [ec, hx]
  have o2 : Ok wd (thinR (renR N rows 0) k m) := thin_ok o1 P
  have k0 : k.getD 0 0 < (thinR (renR N rows 0) k m).length := by rw [thin_len]; exact P.lt _ (getD_mem (by omega))
  have hr2 := v_renamed (b := false) (c := false) (e := false) (ends := thinE (renE N rows ends 0) k m) o2 k0 (N := N) (by rw [thin_len]; omega) hf hw
  have hmax := max_ni P.lt (P.hit (m - 1) (by omega)) mpos
  have fitm : fits ((List.range m).map fun i : Nat => D.int (i : Int)) = true := fits_map (by rw [List.length_range]; exact Nat.le_trans (show _ ≤ 1000000 by omega) size2000)
  refine runG_rt rfl fun τ => ?_
  refine st_asg (d := mD true true true true (renR N rows 0) (renE N rows ends 0)) (by simp (implicitDefEqProofs := false) only [DL.sSeq, DL.seqO, DL.sIf, DL.sRet, DL.sSet, DL.sExpr, DL.sNo, DL.sNil, DL.sMany, DL.setS, DL.sAsg, DL.bO_pure, DL.dVar, DL.dC, DL.dOp, DL.dCB, DL.dCall, DL.aCons, DL.aNil, DL.dB, DL.bAnd, DL.bOr, DL.bNot, DL.dAnd, DL.dOr, DL.dNot, DL.dNeg, DL.dChain, DL.dIsi, DL.dIsi2, DL.tyD, DL.Ty.isa, DL.dSlice, DL.pNone, DL.pSome, DL.dTup, DL.dOf, DL.fLst, DL.fComp, DL.fItems, DL.wipeS, DL.iSeq, DL.iR1, DL.iR2, DL.iZip, DL.xVal, DL.xNil, DL.dIf, DL.gN, DL.gT, DL.gsN, DL.gsC, DL.aStar, DL.M.pure_bind, DL.M.lift_some, DL.toB_bl, DL.toI_int, DL.fits_map, DL.fits_nil, List.map_cons, List.map_nil, List.replicate, List.cons_append, List.nil_append, Nat.sub_zero, Nat.reduceSub, List.getElem?_cons_zero, List.getElem?_cons_succ, List.length_cons, List.length_nil, Nat.zero_add, Nat.reduceAdd, if_true, List.set_cons_zero, List.set_cons_succ, Option.bind_some, DL.items_tup, DL.items_lst, Bool.false_eq_true, if_false, Bool.not_true, Bool.not_false, Bool.true_and, Bool.and_true, Bool.false_and, DL.dTop, hr]) rfl ?_
  refine st_set (d := .lst (k.map ni)) (by simp (implicitDefEqProofs := false) only [DL.sSeq, DL.seqO, DL.sIf, DL.sRet, DL.sSet, DL.sExpr, DL.sNo, DL.sNil, DL.sMany, DL.setS, DL.sAsg, DL.bO_pure, DL.dVar, DL.dC, DL.dOp, DL.dCB, DL.dCall, DL.aCons, DL.aNil, DL.dB, DL.bAnd, DL.bOr, DL.bNot, DL.dAnd, DL.dOr, DL.dNot, DL.dNeg, DL.dChain, DL.dIsi, DL.dIsi2, DL.tyD, DL.Ty.isa, DL.dSlice, DL.pNone, DL.pSome, DL.dTup, DL.dOf, DL.fLst, DL.fComp, DL.fItems, DL.wipeS, DL.iSeq, DL.iR1, DL.iR2, DL.iZip, DL.xVal, DL.xNil, DL.dIf, DL.gN, DL.gT, DL.gsN, DL.gsC, DL.aStar, DL.M.pure_bind, DL.M.lift_some, DL.toB_bl, DL.toI_int, DL.fits_map, DL.fits_nil, List.map_cons, List.map_nil, List.replicate, List.cons_append, List.nil_append, Nat.sub_zero, Nat.reduceSub, List.getElem?_cons_zero, List.getElem?_cons_succ, List.length_cons, List.length_nil, Nat.zero_add, Nat.reduceAdd, if_true, List.set_cons_zero, List.set_cons_succ, Option.bind_some, DL.items_tup, DL.items_lst, Bool.false_eq_true, if_false, Bool.not_true, Bool.not_false, Bool.true_and, Bool.and_true, Bool.false_and, DL.dTop, hp]) ?_
  refine st_setF (ds := ((List.range m).map (MA.head k)).map ni) ?_ ?_
  · refine fComp_of (ds := (List.range m).map fun i : Nat => D.int (i : Int)) ?_ ?_ ?_
    · have e3 : addD (ni (m - 1)) (.int 1) = some (ni m) := by rw [addD_int]; congr 2; omega
      simp (implicitDefEqProofs := false) only [DL.sSeq, DL.seqO, DL.sIf, DL.sRet, DL.sSet, DL.sExpr, DL.sNo, DL.sNil, DL.sMany, DL.setS, DL.sAsg, DL.bO_pure, DL.dVar, DL.dC, DL.dOp, DL.dCB, DL.dCall, DL.aCons, DL.aNil, DL.dB, DL.bAnd, DL.bOr, DL.bNot, DL.dAnd, DL.dOr, DL.dNot, DL.dNeg, DL.dChain, DL.dIsi, DL.dIsi2, DL.tyD, DL.Ty.isa, DL.dSlice, DL.pNone, DL.pSome, DL.dTup, DL.dOf, DL.fLst, DL.fComp, DL.fItems, DL.wipeS, DL.iSeq, DL.iR1, DL.iR2, DL.iZip, DL.xVal, DL.xNil, DL.dIf, DL.gN, DL.gT, DL.gsN, DL.gsC, DL.aStar, DL.M.pure_bind, DL.M.lift_some, DL.toB_bl, DL.toI_int, DL.fits_map, DL.fits_nil, List.map_cons, List.map_nil, List.replicate, List.cons_append, List.nil_append, Nat.sub_zero, Nat.reduceSub, List.getElem?_cons_zero, List.getElem?_cons_succ, List.length_cons, List.length_nil, Nat.zero_add, Nat.reduceAdd, if_true, List.set_cons_zero, List.set_cons_succ, Option.bind_some, DL.items_tup, DL.items_lst, Bool.false_eq_true, if_false, Bool.not_true, Bool.not_false, Bool.true_and, Bool.and_true, Bool.false_and, DL.dTop, DL.items_sq, DL.len_sq, List.length_map, DL.ix_sq0, DL.ix_sq1, DL.in_ns, DL.nin_ns, DL.eqD_ni, DL.neD_ni, DL.add_ni, DL.lt_ni, DL.le_ni, DL.tuple_sq, DL.int_bl, DL.rangeD_0, Int.toNat_natCast, DL.comp_n, DL.comp_nt, DL.comp_2, DL.comp_2t, DL.mapMM_pure, DL.filtMM_pure, DL.ifp_and, DL.ifp_or, DL.ifd_and, DL.ifd_or, DL.filtMM_yes, hmax, e3]
    · rw [List.length_map, List.length_range]; exact Nat.le_trans (show _ ≤ 1000000 by omega) size2000
    · rw [comp_n, List.map_map]
      exact mapMM_of fun j hj => dIndex_cod cod_nat (by omega) (xs := k) (a := j) rfl rfl (head_idx (P.hit j (List.mem_range.mp hj)))
  · have fith : fits (((List.range m).map (MA.head k)).map ni) = true := by
      rw [List.map_map]
      exact fits_map (by rw [List.length_range]; exact Nat.le_trans (show _ ≤ 1000000 by omega) size2000)
    refine st_setF (ds := (thinR (renR N rows 0) k m).map (ns false)) ?_ ?_
    · refine fComp_of (ds := ((List.range m).map (MA.head k)).map ni) rfl (by rw [List.length_map, List.length_map, List.length_range]; exact Nat.le_trans (show _ ≤ 1000000 by omega) size2000) ?_
      rw [comp_n]
      have : mapMM (fun x => dOf (fComp (iSeq (dOp ixD (dVar 3) (dVar 9))) [10] (gN 10) bYes (dOp ixD (dVar 5) (dVar 10))) [.d (nss b c rows), .d (ns e ends), .d (ni 0), .d (nss true true (renR N rows 0)), .d (ns true (renE N rows ends 0)), .d (.lst (k.map ni)), .d (.lst (((List.range m).map (MA.head k)).map ni)), .un, .un, .d (ni x), .un]) ((List.range m).map (MA.head k)) =
          M.pure (((List.range m).map (MA.head k)).map fun h => ns false ((nx (renR N rows 0) h).map fun g => k.getD g 0)) := mapMM_of fun h hh => by
        obtain ⟨j, hj, rfl⟩ := List.mem_map.mp hh
        have hl := head_lt P (List.mem_range.mp hj)
        have e1 := ix_nss (b := true) (c := true) hl
        have hfit3 : fits ((nx (renR N rows 0) (MA.head k j)).map ni) = true := fits_map (by rw [o1.nx_len hl]; exact Nat.le_trans hw size1000)
        have hin : mapMM (fun y => M.lift (ixD (.lst (k.map ni)) (ni y))) (nx (renR N rows 0) (MA.head k j)) = M.pure ((nx (renR N rows 0) (MA.head k j)).map fun y => ni (k.getD y 0)) := mapMM_of fun y hy => by
          rw [show ixD (.lst (k.map ni)) (ni y) = _ from ix_ns (b := false) (by rw [kl]; exact o1.nx_lt hl y hy)]
          rfl
        simp (implicitDefEqProofs := false) only [DL.sSeq, DL.seqO, DL.sIf, DL.sRet, DL.sSet, DL.sExpr, DL.sNo, DL.sNil, DL.sMany, DL.setS, DL.sAsg, DL.bO_pure, DL.dVar, DL.dC, DL.dOp, DL.dCB, DL.dCall, DL.aCons, DL.aNil, DL.dB, DL.bAnd, DL.bOr, DL.bNot, DL.dAnd, DL.dOr, DL.dNot, DL.dNeg, DL.dChain, DL.dIsi, DL.dIsi2, DL.tyD, DL.Ty.isa, DL.dSlice, DL.pNone, DL.pSome, DL.dTup, DL.dOf, DL.fLst, DL.fComp, DL.fItems, DL.wipeS, DL.iSeq, DL.iR1, DL.iR2, DL.iZip, DL.xVal, DL.xNil, DL.dIf, DL.gN, DL.gT, DL.gsN, DL.gsC, DL.aStar, DL.M.pure_bind, DL.M.lift_some, DL.toB_bl, DL.toI_int, DL.fits_map, DL.fits_nil, List.map_cons, List.map_nil, List.replicate, List.cons_append, List.nil_append, Nat.sub_zero, Nat.reduceSub, List.getElem?_cons_zero, List.getElem?_cons_succ, List.length_cons, List.length_nil, Nat.zero_add, Nat.reduceAdd, if_true, List.set_cons_zero, List.set_cons_succ, Option.bind_some, DL.items_tup, DL.items_lst, Bool.false_eq_true, if_false, Bool.not_true, Bool.not_false, Bool.true_and, Bool.and_true, Bool.false_and, DL.dTop, DL.items_sq, DL.len_sq, List.length_map, DL.ix_sq0, DL.ix_sq1, DL.in_ns, DL.nin_ns, DL.eqD_ni, DL.neD_ni, DL.add_ni, DL.lt_ni, DL.le_ni, DL.tuple_sq, DL.int_bl, DL.rangeD_0, Int.toNat_natCast, DL.comp_n, DL.comp_nt, DL.comp_2, DL.comp_2t, DL.mapMM_pure, DL.filtMM_pure, DL.ifp_and, DL.ifp_or, DL.ifd_and, DL.ifd_or, DL.filtMM_yes, e1, hfit3, hin]
        show M.pure (D.lst _) = M.pure (D.lst (((nx (renR N rows 0) (MA.head k j)).map fun g => k.getD g 0).map ni))
        rw [List.map_map]
        rfl
      refine Eq.trans this ?_
      unfold thinR
      rw [List.map_map, List.map_map]
      rfl
    · have hen : ∀ {s0 s1 s2 s3 s4 s5 s7 s8 s9 s10 : S}, DL.iEnum (dVar 6) [s0, s1, s2, s3, s4, s5, .d (.lst (((List.range m).map (MA.head k)).map ni)), s7, s8, s9, s10] = M.pure ((enumN ((List.range m).map (MA.head k))).map fun p => D.tup [ni p.1, ni p.2]) := fun {s0 s1 s2 s3 s4 s5 s7 s8 s9 s10} => enum_ns (b := false) _ rfl
      have hfe : fits ((enumN ((List.range m).map (MA.head k))).map fun p => D.tup [ni p.1, ni p.2]) = true := fits_map (by rw [enumN_length, List.length_map, List.length_range]; exact Nat.le_trans (show _ ≤ 1000000 by omega) size2000)
      have hin : ∀ x : Nat, inD (ni x) (ns true (renE N rows ends 0)) = some (.bl (decide (x ∈ renE N rows ends 0))) := fun x => in_ns true x _
      have ef := enum_filter_num ((List.range m).map (MA.head k)) fun x => decide (x ∈ renE N rows ends 0)
      have eh : ((List.range ((List.range m).map (MA.head k)).length).filter fun i => decide (((List.range m).map (MA.head k)).getD i 0 ∈ renE N rows ends 0)) = thinE (renE N rows ends 0) k m := by
        rw [List.length_map, List.length_range]
        unfold thinE
        refine List.filter_congr fun i hi => ?_
        rw [List.getD_eq_getElem?_getD, List.getElem?_map, List.getElem?_range (List.mem_range.mp hi)]
        rfl
      have e0 : ixD (.lst (k.map ni)) (.int 0) = some (ni (k.getD 0 0)) := ix_ns (b := false) (i := 0) (by omega)
      have key : (List.map (fun x : Nat × Nat => ni x.1) ((enumN ((List.range m).map (MA.head k))).filter fun x => decide (x.2 ∈ renE N rows ends 0))) = (thinE (renE N rows ends 0) k m).map ni := by
        rw [← eh, ← ef, List.map_map]
        rfl
      rw [lR, lE]
      have hr2 : m_renamed [.lst ((thinR (renR N rows 0) k m).map (ns false)), .lst ((thinE (renE N rows ends 0) k m).map ni), ni (k.getD 0 0)] = _ := hr2
      simp (implicitDefEqProofs := false) only [DL.sSeq, DL.seqO, DL.sIf, DL.sRet, DL.sSet, DL.sExpr, DL.sNo, DL.sNil, DL.sMany, DL.setS, DL.sAsg, DL.bO_pure, DL.dVar, DL.dC, DL.dOp, DL.dCB, DL.dCall, DL.aCons, DL.aNil, DL.dB, DL.bAnd, DL.bOr, DL.bNot, DL.dAnd, DL.dOr, DL.dNot, DL.dNeg, DL.dChain, DL.dIsi, DL.dIsi2, DL.tyD, DL.Ty.isa, DL.dSlice, DL.pNone, DL.pSome, DL.dTup, DL.dOf, DL.fLst, DL.fComp, DL.fItems, DL.wipeS, DL.iSeq, DL.iR1, DL.iR2, DL.iZip, DL.xVal, DL.xNil, DL.dIf, DL.gN, DL.gT, DL.gsN, DL.gsC, DL.aStar, DL.M.pure_bind, DL.M.lift_some, DL.toB_bl, DL.toI_int, DL.fits_map, DL.fits_nil, List.map_cons, List.map_nil, List.replicate, List.cons_append, List.nil_append, Nat.sub_zero, Nat.reduceSub, List.getElem?_cons_zero, List.getElem?_cons_succ, List.length_cons, List.length_nil, Nat.zero_add, Nat.reduceAdd, if_true, List.set_cons_zero, List.set_cons_succ, Option.bind_some, DL.items_tup, DL.items_lst, Bool.false_eq_true, if_false, Bool.not_true, Bool.not_false, Bool.true_and, Bool.and_true, Bool.false_and, DL.dTop, DL.items_sq, DL.len_sq, List.length_map, DL.ix_sq0, DL.ix_sq1, DL.in_ns, DL.nin_ns, DL.eqD_ni, DL.neD_ni, DL.add_ni, DL.lt_ni, DL.le_ni, DL.tuple_sq, DL.int_bl, DL.rangeD_0, Int.toNat_natCast, DL.comp_n, DL.comp_nt, DL.comp_2, DL.comp_2t, DL.mapMM_pure, DL.filtMM_pure, DL.ifp_and, DL.ifp_or, DL.ifd_and, DL.ifd_or, DL.filtMM_yes, hen, hfe, hin, key, e0, hr2]
theorem v_least (o : Ok wd rows) {N : Nat} (hN : rows.length ≤ N) (hf : N ≤ 10000) (h64 : rows.length < 64) (hw : wd ≤ 1000) : m_least [mD a b c e rows ends] = M.pure (mD true true true true (leastR N rows ends) (leastE N rows ends)) := by
  have hv := v_least_of (b := b) (c := c) (e := e) (ends := ends) o hN hf h64 hw
  have hv : m_least_of [nss b c rows, ns e ends, .int 0] = _ := hv
  refine runG_rt rfl fun τ => ?_
  simp (implicitDefEqProofs := false) only [b_least, DL.sSeq, DL.seqO, DL.sIf, DL.sRet, DL.sSet, DL.sExpr, DL.sNo, DL.sNil, DL.sMany, DL.setS, DL.sAsg, DL.bO_pure, DL.dVar, DL.dC, DL.dOp, DL.dCB, DL.dCall, DL.aCons, DL.aNil, DL.dB, DL.bAnd, DL.bOr, DL.bNot, DL.dAnd, DL.dOr, DL.dNot, DL.dNeg, DL.dChain, DL.dIsi, DL.dIsi2, DL.tyD, DL.Ty.isa, DL.dSlice, DL.pNone, DL.pSome, DL.dTup, DL.dOf, DL.fLst, DL.fComp, DL.fItems, DL.wipeS, DL.iSeq, DL.iR1, DL.iR2, DL.iZip, DL.xVal, DL.xNil, DL.dIf, DL.gN, DL.gT, DL.gsN, DL.gsC, DL.aStar, DL.M.pure_bind, DL.M.lift_some, DL.toB_bl, DL.toI_int, DL.fits_map, DL.fits_nil, List.map_cons, List.map_nil, List.replicate, List.cons_append, List.nil_append, Nat.sub_zero, Nat.reduceSub, List.getElem?_cons_zero, List.getElem?_cons_succ, List.length_cons, List.length_nil, Nat.zero_add, Nat.reduceAdd, if_true, List.set_cons_zero, List.set_cons_succ, Option.bind_some, DL.items_tup, DL.items_lst, Bool.false_eq_true, if_false, Bool.not_true, Bool.not_false, Bool.true_and, Bool.and_true, Bool.false_and, DL.dTop, DL.items_sq, DL.len_sq, List.length_map, DL.ix_sq0, DL.ix_sq1, DL.in_ns, DL.nin_ns, DL.eqD_ni, DL.neD_ni, DL.add_ni, DL.lt_ni, DL.le_ni, DL.tuple_sq, DL.int_bl, DL.rangeD_0, Int.toNat_natCast, DL.comp_n, DL.comp_nt, DL.comp_2, DL.comp_2t, DL.mapMM_pure, DL.filtMM_pure, DL.ifp_and, DL.ifp_or, DL.ifd_and, DL.ifd_or, DL.filtMM_yes, hv]
/-! ### two machines -/
section
variable {r1 r2 : Rows} {e1 e2 : List Nat} {a1 b1 c1 d1 a2 b2 c2 d2 : Bool}
theorem v_sure_wide (o1 : Ok wd r1) (o2 : Ok wd r2) : m_sure_wide [mD a1 b1 c1 d1 r1 e1, mD a2 b2 c2 d2 r2 e2] = M.pure .non := by
  have h1 := v_wide_of (a := a1) (b := b1) (c := c1) (e := d1) (ends := e1) o1
  have h2 := v_wide_of (a := a2) (b := b2) (c := c2) (e := d2) (ends := e2) o2
  refine runG_nx rfl fun τ => ?_
  simp (implicitDefEqProofs := false) only [b_sure_wide, DL.sSeq, DL.seqO, DL.sIf, DL.sRet, DL.sSet, DL.sExpr, DL.sNo, DL.sNil, DL.sMany, DL.setS, DL.sAsg, DL.bO_pure, DL.dVar, DL.dC, DL.dOp, DL.dCB, DL.dCall, DL.aCons, DL.aNil, DL.dB, DL.bAnd, DL.bOr, DL.bNot, DL.dAnd, DL.dOr, DL.dNot, DL.dNeg, DL.dChain, DL.dIsi, DL.dIsi2, DL.tyD, DL.Ty.isa, DL.dSlice, DL.pNone, DL.pSome, DL.dTup, DL.dOf, DL.fLst, DL.fComp, DL.fItems, DL.wipeS, DL.iSeq, DL.iR1, DL.iR2, DL.iZip, DL.xVal, DL.xNil, DL.dIf, DL.gN, DL.gT, DL.gsN, DL.gsC, DL.aStar, DL.M.pure_bind, DL.M.lift_some, DL.toB_bl, DL.toI_int, DL.fits_map, DL.fits_nil, List.map_cons, List.map_nil, List.replicate, List.cons_append, List.nil_append, Nat.sub_zero, Nat.reduceSub, List.getElem?_cons_zero, List.getElem?_cons_succ, List.length_cons, List.length_nil, Nat.zero_add, Nat.reduceAdd, if_true, List.set_cons_zero, List.set_cons_succ, Option.bind_some, DL.items_tup, DL.items_lst, Bool.false_eq_true, if_false, Bool.not_true, Bool.not_false, Bool.true_and, Bool.and_true, Bool.false_and, DL.dTop, DL.items_sq, DL.len_sq, List.length_map, DL.ix_sq0, DL.ix_sq1, DL.in_ns, DL.nin_ns, DL.eqD_ni, DL.neD_ni, DL.add_ni, DL.lt_ni, DL.le_ni, DL.tuple_sq, DL.int_bl, DL.rangeD_0, Int.toNat_natCast, DL.comp_n, DL.comp_nt, DL.comp_2, DL.comp_2t, DL.mapMM_pure, DL.filtMM_pure, DL.ifp_and, DL.ifp_or, DL.ifd_and, DL.ifd_or, DL.filtMM_yes, h1, h2, decide_true]
theorem cod_mD : Cod 3 (fun p : Rows × List Nat => mD true true true true p.1 p.2) := by
  have h : Cod 2 fun xs : List (List Nat) => nss true true xs := cod_nat.tup.tup
  exact h.pair ((cod_nat.tup).mono (by omega))
theorem v_alike (o1 : Ok wd r1) (o2 : Ok wd r2) {N : Nat} (h1 : r1.length ≤ N) (h2 : r2.length ≤ N) (hf : N ≤ 10000) (l1 : r1.length < 64) (l2 : r2.length < 64) (hw : wd ≤ 1000) :
    m_alike [mD a1 b1 c1 d1 r1 e1, mD a2 b2 c2 d2 r2 e2] = M.pure (.bl (decide ((leastR N r1 e1, leastE N r1 e1) = (leastR N r2 e2, leastE N r2 e2)))) := by
  have q1 := v_least (a := a1) (b := b1) (c := c1) (e := d1) (ends := e1) o1 h1 hf l1 hw
  have q2 := v_least (a := a2) (b := b2) (c := c2) (e := d2) (ends := e2) o2 h2 hf l2 hw
  have qs := v_sure_wide (a1 := a1) (b1 := b1) (c1 := c1) (d1 := d1) (a2 := a2) (b2 := b2) (c2 := c2) (d2 := d2) (e1 := e1) (e2 := e2) o1 o2
  have qe : eqD (mD true true true true (leastR N r1 e1) (leastE N r1 e1)) (mD true true true true (leastR N r2 e2) (leastE N r2 e2)) = some (.bl (decide ((leastR N r1 e1, leastE N r1 e1) = (leastR N r2 e2, leastE N r2 e2)))) := cod_mD.eqD (by omega) (leastR N r1 e1, leastE N r1 e1) (leastR N r2 e2, leastE N r2 e2)
  refine runG_rt rfl fun τ => ?_
  simp (implicitDefEqProofs := false) only [b_alike, DL.sSeq, DL.seqO, DL.sIf, DL.sRet, DL.sSet, DL.sExpr, DL.sNo, DL.sNil, DL.sMany, DL.setS, DL.sAsg, DL.bO_pure, DL.dVar, DL.dC, DL.dOp, DL.dCB, DL.dCall, DL.aCons, DL.aNil, DL.dB, DL.bAnd, DL.bOr, DL.bNot, DL.dAnd, DL.dOr, DL.dNot, DL.dNeg, DL.dChain, DL.dIsi, DL.dIsi2, DL.tyD, DL.Ty.isa, DL.dSlice, DL.pNone, DL.pSome, DL.dTup, DL.dOf, DL.fLst, DL.fComp, DL.fItems, DL.wipeS, DL.iSeq, DL.iR1, DL.iR2, DL.iZip, DL.xVal, DL.xNil, DL.dIf, DL.gN, DL.gT, DL.gsN, DL.gsC, DL.aStar, DL.M.pure_bind, DL.M.lift_some, DL.toB_bl, DL.toI_int, DL.fits_map, DL.fits_nil, List.map_cons, List.map_nil, List.replicate, List.cons_append, List.nil_append, Nat.sub_zero, Nat.reduceSub, List.getElem?_cons_zero, List.getElem?_cons_succ, List.length_cons, List.length_nil, Nat.zero_add, Nat.reduceAdd, if_true, List.set_cons_zero, List.set_cons_succ, Option.bind_some, DL.items_tup, DL.items_lst, Bool.false_eq_true, if_false, Bool.not_true, Bool.not_false, Bool.true_and, Bool.and_true, Bool.false_and, DL.dTop, DL.items_sq, DL.len_sq, List.length_map, DL.ix_sq0, DL.ix_sq1, DL.in_ns, DL.nin_ns, DL.eqD_ni, DL.neD_ni, DL.add_ni, DL.lt_ni, DL.le_ni, DL.tuple_sq, DL.int_bl, DL.rangeD_0, Int.toNat_natCast, DL.comp_n, DL.comp_nt, DL.comp_2, DL.comp_2t, DL.mapMM_pure, DL.filtMM_pure, DL.ifp_and, DL.ifp_or, DL.ifd_and, DL.ifd_or, DL.filtMM_yes, qs, q1, q2, qe]
theorem v_is_good (x y : Bool) : m_is_good [.bl x, .bl y, .str "unlike"] = M.pure (.bl (x != y)) := by
  have h1 : eqD (.str "unlike") (.str "both") = some (.bl false) := (eqD_str (by decide +kernel) (by decide +kernel)).trans (congrArg (fun b => some (D.bl b)) (by decide +kernel))
  have h2 : eqD (.str "unlike") (.str "either") = some (.bl false) := (eqD_str (by decide +kernel) (by decide +kernel)).trans (congrArg (fun b => some (D.bl b)) (by decide +kernel))
  refine runG_rt rfl fun τ => ?_
  simp (implicitDefEqProofs := false) only [b_is_good, DL.sSeq, DL.seqO, DL.sIf, DL.sRet, DL.sSet, DL.sExpr, DL.sNo, DL.sNil, DL.sMany, DL.setS, DL.sAsg, DL.bO_pure, DL.dVar, DL.dC, DL.dOp, DL.dCB, DL.dCall, DL.aCons, DL.aNil, DL.dB, DL.bAnd, DL.bOr, DL.bNot, DL.dAnd, DL.dOr, DL.dNot, DL.dNeg, DL.dChain, DL.dIsi, DL.dIsi2, DL.tyD, DL.Ty.isa, DL.dSlice, DL.pNone, DL.pSome, DL.dTup, DL.dOf, DL.fLst, DL.fComp, DL.fItems, DL.wipeS, DL.iSeq, DL.iR1, DL.iR2, DL.iZip, DL.xVal, DL.xNil, DL.dIf, DL.gN, DL.gT, DL.gsN, DL.gsC, DL.aStar, DL.M.pure_bind, DL.M.lift_some, DL.toB_bl, DL.toI_int, DL.fits_map, DL.fits_nil, List.map_cons, List.map_nil, List.replicate, List.cons_append, List.nil_append, Nat.sub_zero, Nat.reduceSub, List.getElem?_cons_zero, List.getElem?_cons_succ, List.length_cons, List.length_nil, Nat.zero_add, Nat.reduceAdd, if_true, List.set_cons_zero, List.set_cons_succ, Option.bind_some, DL.items_tup, DL.items_lst, Bool.false_eq_true, if_false, Bool.not_true, Bool.not_false, Bool.true_and, Bool.and_true, Bool.false_and, DL.dTop, DL.items_sq, DL.len_sq, List.length_map, DL.ix_sq0, DL.ix_sq1, DL.in_ns, DL.nin_ns, DL.eqD_ni, DL.neD_ni, DL.add_ni, DL.lt_ni, DL.le_ni, DL.tuple_sq, DL.int_bl, DL.rangeD_0, Int.toNat_natCast, DL.comp_n, DL.comp_nt, DL.comp_2, DL.comp_2t, DL.mapMM_pure, DL.filtMM_pure, DL.ifp_and, DL.ifp_or, DL.ifd_and, DL.ifd_or, DL.filtMM_yes, h1, h2, neD_bls]
theorem v_joined (o1 : Ok wd r1) (o2 : Ok wd r2) {N : Nat} (hN : r1.length * r2.length ≤ N) (hf : N ≤ 10000) (h64 : r1.length * r2.length < 64) (hw : wd ≤ 1000) :
    m_joined [mD a1 b1 c1 d1 r1 e1, mD a2 b2 c2 d2 r2 e2, .str "unlike"] = M.pure (mD true true true true (leastR N (sideR r1 r2) (sideE (fun a b => a != b) r1.length r2.length e1 e2)) (leastE N (sideR r1 r2) (sideE (fun a b => a != b) r1.length r2.length e1 e2))) := by
  have qs := v_sure_wide (a1 := a1) (b1 := b1) (c1 := c1) (d1 := d1) (a2 := a2) (b2 := b2) (c2 := c2) (d2 := d2) (e1 := e1) (e2 := e2) o1 o2
  have os := side_ok o1 o2
  have p1 := o1.pos
  have p2 := o2.pos
  have l1 : r1.length ≤ r1.length * r2.length := Nat.le_mul_of_pos_right _ p2
  have l2 : r2.length ≤ r1.length * r2.length := Nat.le_mul_of_pos_left _ p1
  have hl := v_least_of (b := false) (c := false) (e := false) (ends := sideE (fun a b => a != b) r1.length r2.length e1 e2) os (N := N) (by rw [side_len]; exact hN) hf (by rw [side_len]; exact h64) hw
  have hl : m_least_of [.lst ((sideR r1 r2).map (ns false)), .lst ((sideE (fun a b => a != b) r1.length r2.length e1 e2).map ni), .int 0] = _ := hl
  -- the rows of the first, one by one
  let R := fun (row line : List Nat) => sideRow r2.length row line
  let Eo := fun near => ((List.range r2.length).filter fun far => (decide (near ∈ e1)) != (decide (far ∈ e2))).map fun far => near * r2.length + far
  have hen : ∀ {fa : DL.Env → M D} {ρ : DL.Env} {r : Rows} (b c : Bool), fa ρ = M.pure (nss b c r) → DL.iEnum fa ρ = M.pure ((enumN r).map fun p => D.tup [ni p.1, ns c p.2]) := fun {fa ρ r} b c h => enum_sq b fa ρ (ns c) r h
  have alen : ∀ i, ((r1.take i).flatMap fun row => r2.map (R row)).length ≤ r1.length * r2.length := fun i => by
    rw [flat_len (m := r2.length) fun x _ => by rw [List.length_map], List.length_take]
    exact Nat.mul_le_mul_right _ (Nat.min_le_right _ _)
  have eolen : ∀ n, (Eo n).length ≤ r2.length := fun n => by
    show (List.map _ (List.filter _ _)).length ≤ _
    rw [List.length_map]
    exact Nat.le_trans (List.length_filter_le _ _) (by rw [List.length_range]; exact Nat.le_refl _)
  have elen : ∀ i, i ≤ r1.length → ((List.range i).flatMap Eo).length ≤ r1.length * r2.length := fun i hi => by
    refine Nat.le_trans ?_ (Nat.mul_le_mul_right _ hi)
    induction i with
    | zero => simp
    | succ i ih =>
      rw [List.range_succ, List.flatMap_append, List.length_append, Nat.succ_mul]
      have := ih (by omega)
      have := eolen i
      simp only [List.flatMap_cons, List.flatMap_nil, List.append_nil]
      omega
  refine runG_rt rfl fun τ => ?_
  refine st_expr (d := .non) (by simp (implicitDefEqProofs := false) only [DL.sSeq, DL.seqO, DL.sIf, DL.sRet, DL.sSet, DL.sExpr, DL.sNo, DL.sNil, DL.sMany, DL.setS, DL.sAsg, DL.bO_pure, DL.dVar, DL.dC, DL.dOp, DL.dCB, DL.dCall, DL.aCons, DL.aNil, DL.dB, DL.bAnd, DL.bOr, DL.bNot, DL.dAnd, DL.dOr, DL.dNot, DL.dNeg, DL.dChain, DL.dIsi, DL.dIsi2, DL.tyD, DL.Ty.isa, DL.dSlice, DL.pNone, DL.pSome, DL.dTup, DL.dOf, DL.fLst, DL.fComp, DL.fItems, DL.wipeS, DL.iSeq, DL.iR1, DL.iR2, DL.iZip, DL.xVal, DL.xNil, DL.dIf, DL.gN, DL.gT, DL.gsN, DL.gsC, DL.aStar, DL.M.pure_bind, DL.M.lift_some, DL.toB_bl, DL.toI_int, DL.fits_map, DL.fits_nil, List.map_cons, List.map_nil, List.replicate, List.cons_append, List.nil_append, Nat.sub_zero, Nat.reduceSub, List.getElem?_cons_zero, List.getElem?_cons_succ, List.length_cons, List.length_nil, Nat.zero_add, Nat.reduceAdd, if_true, List.set_cons_zero, List.set_cons_succ, Option.bind_some, DL.items_tup, DL.items_lst, Bool.false_eq_true, if_false, Bool.not_true, Bool.not_false, Bool.true_and, Bool.and_true, Bool.false_and, DL.dTop, qs]) ?_
  refine st_do (ρ1 := [.d (mD a1 b1 c1 d1 r1 e1), .d (mD a2 b2 c2 d2 r2 e2), .d (.str "unlike"), .d (ni r2.length), .own [], .own [], .un, .un, .un, .un, .un, .un]) (τ' := τ) (by simp (implicitDefEqProofs := false) only [DL.sSeq, DL.seqO, DL.sIf, DL.sRet, DL.sSet, DL.sExpr, DL.sNo, DL.sNil, DL.sMany, DL.setS, DL.sAsg, DL.bO_pure, DL.dVar, DL.dC, DL.dOp, DL.dCB, DL.dCall, DL.aCons, DL.aNil, DL.dB, DL.bAnd, DL.bOr, DL.bNot, DL.dAnd, DL.dOr, DL.dNot, DL.dNeg, DL.dChain, DL.dIsi, DL.dIsi2, DL.tyD, DL.Ty.isa, DL.dSlice, DL.pNone, DL.pSome, DL.dTup, DL.dOf, DL.fLst, DL.fComp, DL.fItems, DL.wipeS, DL.iSeq, DL.iR1, DL.iR2, DL.iZip, DL.xVal, DL.xNil, DL.dIf, DL.gN, DL.gT, DL.gsN, DL.gsC, DL.aStar, DL.M.pure_bind, DL.M.lift_some, DL.toB_bl, DL.toI_int, DL.fits_map, DL.fits_nil, List.map_cons, List.map_nil, List.replicate, List.cons_append, List.nil_append, Nat.sub_zero, Nat.reduceSub, List.getElem?_cons_zero, List.getElem?_cons_succ, List.length_cons, List.length_nil, Nat.zero_add, Nat.reduceAdd, if_true, List.set_cons_zero, List.set_cons_succ, Option.bind_some, DL.items_tup, DL.items_lst, Bool.false_eq_true, if_false, Bool.not_true, Bool.not_false, Bool.true_and, Bool.and_true, Bool.false_and, DL.dTop, DL.items_sq, DL.len_sq, List.length_map, DL.ix_sq0, DL.ix_sq1, DL.in_ns, DL.nin_ns, DL.eqD_ni, DL.neD_ni, DL.add_ni, DL.lt_ni, DL.le_ni, DL.tuple_sq, DL.int_bl, DL.rangeD_0, Int.toNat_natCast, DL.comp_n, DL.comp_nt, DL.comp_2, DL.comp_2t, DL.mapMM_pure, DL.filtMM_pure, DL.ifp_and, DL.ifp_or, DL.ifd_and, DL.ifd_or, DL.filtMM_yes, DL.xOwn]) ?_
  refine st_for (xs := enumN r1) (j := fun p => D.tup [ni p.1, ns c1 p.2]) (hen b1 c1 (by simp (implicitDefEqProofs := false) only [DL.sSeq, DL.seqO, DL.sIf, DL.sRet, DL.sSet, DL.sExpr, DL.sNo, DL.sNil, DL.sMany, DL.setS, DL.sAsg, DL.bO_pure, DL.dVar, DL.dC, DL.dOp, DL.dCB, DL.dCall, DL.aCons, DL.aNil, DL.dB, DL.bAnd, DL.bOr, DL.bNot, DL.dAnd, DL.dOr, DL.dNot, DL.dNeg, DL.dChain, DL.dIsi, DL.dIsi2, DL.tyD, DL.Ty.isa, DL.dSlice, DL.pNone, DL.pSome, DL.dTup, DL.dOf, DL.fLst, DL.fComp, DL.fItems, DL.wipeS, DL.iSeq, DL.iR1, DL.iR2, DL.iZip, DL.xVal, DL.xNil, DL.dIf, DL.gN, DL.gT, DL.gsN, DL.gsC, DL.aStar, DL.M.pure_bind, DL.M.lift_some, DL.toB_bl, DL.toI_int, DL.fits_map, DL.fits_nil, List.map_cons, List.map_nil, List.replicate, List.cons_append, List.nil_append, Nat.sub_zero, Nat.reduceSub, List.getElem?_cons_zero, List.getElem?_cons_succ, List.length_cons, List.length_nil, Nat.zero_add, Nat.reduceAdd, if_true, List.set_cons_zero, List.set_cons_succ, Option.bind_some, DL.items_tup, DL.items_lst, Bool.false_eq_true, if_false, Bool.not_true, Bool.not_false, Bool.true_and, Bool.and_true, Bool.false_and, DL.dTop, DL.items_sq, DL.len_sq, List.length_map, DL.ix_sq0, DL.ix_sq1, DL.in_ns, DL.nin_ns, DL.eqD_ni, DL.neD_ni, DL.add_ni, DL.lt_ni, DL.le_ni, DL.tuple_sq, DL.int_bl, DL.rangeD_0, Int.toNat_natCast, DL.comp_n, DL.comp_nt, DL.comp_2, DL.comp_2t, DL.mapMM_pure, DL.filtMM_pure, DL.ifp_and, DL.ifp_or, DL.ifd_and, DL.ifd_or, DL.filtMM_yes])) (fun i ρ τ' => τ' = τ ∧ i ≤ r1.length ∧ ∃ s6 s7 s8 s9 s10 s11, ρ = [.d (mD a1 b1 c1 d1 r1 e1), .d (mD a2 b2 c2 d2 r2 e2), .d (.str "unlike"), .d (ni r2.length), .own (((r1.take i).flatMap fun row => r2.map (R row)).map (ns false)), .own (((List.range i).flatMap Eo).map ni), s6, s7, s8, s9, s10, s11])
    ⟨rfl, Nat.zero_le _, _, _, _, _, _, _, rfl⟩ ?_ ?_
  · rintro i ⟨near, row⟩ ρ τ' hi ⟨rfl, hil, s6, s7, s8, s9, s10, s11, rfl⟩
    have hi2 := enumN_mem (List.mem_of_getElem? hi)
    have hi3 : near = i := by
      unfold enumN at hi
      rw [List.getElem?_zip_eq_some] at hi
      obtain ⟨q, _⟩ := List.getElem?_eq_some_iff.mp hi.1
      have := (List.getElem?_eq_some_iff.mp hi.1).2
      rw [List.getElem_range] at this
      exact this.symm
    subst hi3
    have hi2 : r1[near]? = some row := hi2
    have hlt : near < r1.length := (List.getElem?_eq_some_iff.mp hi2).1
    have wrow : row.length = wd := by rw [← o1.nx_len hlt, nx, List.getD_eq_getElem?_getD, hi2]; rfl
    refine ⟨[.d (mD a1 b1 c1 d1 r1 e1), .d (mD a2 b2 c2 d2 r2 e2), .d (.str "unlike"), .d (ni r2.length), .own (((r1.take near).flatMap fun row => r2.map (R row)).map (ns false)), .own (((List.range near).flatMap Eo).map ni), .d (ni near), .d (ns c1 row), s8, s9, s10, s11], ?_⟩
    obtain ⟨ρ2, τ2, q1, q2⟩ := for_nx (fi := DL.iEnum (dOp ixD (dVar 1) (dC (.int 0)))) (g := gT 2 (gsC (gN 8) (gsC (gN 9) gsN))) (xs := enumN r2) (j := fun p => D.tup [ni p.1, ns c2 p.2]) (τ := τ') (ρ := [.d (mD a1 b1 c1 d1 r1 e1), .d (mD a2 b2 c2 d2 r2 e2), .d (.str "unlike"), .d (ni r2.length), .own (((r1.take near).flatMap fun row => r2.map (R row)).map (ns false)), .own (((List.range near).flatMap Eo).map ni), .d (ni near), .d (ns c1 row), s8, s9, s10, s11])
      (b := sSeq (sIf (dB (dCall 3 (m_is_good) (aCons (dOp inD (dVar 6) (dOp ixD (dVar 0) (dC (.int 1)))) (aCons (dOp inD (dVar 8) (dOp ixD (dVar 1) (dC (.int 1)))) (aCons (dVar 2) aNil))))) (ownAt 5 (sApp 5 (dOp addD (dOp mulD (dVar 6) (dVar 3)) (dVar 8)))) sNil) (ownAt 4 (sApp 4 (dOf (fComp (DL.iZipA (dVar 7) (dVar 9)) [10, 11] (gT 2 (gsC (gN 10) (gsC (gN 11) gsN))) bYes (dOp addD (dOp mulD (dVar 10) (dVar 3)) (dVar 11)))))))
      (hen b2 c2 (by simp (implicitDefEqProofs := false) only [DL.sSeq, DL.seqO, DL.sIf, DL.sRet, DL.sSet, DL.sExpr, DL.sNo, DL.sNil, DL.sMany, DL.setS, DL.sAsg, DL.bO_pure, DL.dVar, DL.dC, DL.dOp, DL.dCB, DL.dCall, DL.aCons, DL.aNil, DL.dB, DL.bAnd, DL.bOr, DL.bNot, DL.dAnd, DL.dOr, DL.dNot, DL.dNeg, DL.dChain, DL.dIsi, DL.dIsi2, DL.tyD, DL.Ty.isa, DL.dSlice, DL.pNone, DL.pSome, DL.dTup, DL.dOf, DL.fLst, DL.fComp, DL.fItems, DL.wipeS, DL.iSeq, DL.iR1, DL.iR2, DL.iZip, DL.xVal, DL.xNil, DL.dIf, DL.gN, DL.gT, DL.gsN, DL.gsC, DL.aStar, DL.M.pure_bind, DL.M.lift_some, DL.toB_bl, DL.toI_int, DL.fits_map, DL.fits_nil, List.map_cons, List.map_nil, List.replicate, List.cons_append, List.nil_append, Nat.sub_zero, Nat.reduceSub, List.getElem?_cons_zero, List.getElem?_cons_succ, List.length_cons, List.length_nil, Nat.zero_add, Nat.reduceAdd, if_true, List.set_cons_zero, List.set_cons_succ, Option.bind_some, DL.items_tup, DL.items_lst, Bool.false_eq_true, if_false, Bool.not_true, Bool.not_false, Bool.true_and, Bool.and_true, Bool.false_and, DL.dTop, DL.items_sq, DL.len_sq, List.length_map, DL.ix_sq0, DL.ix_sq1, DL.in_ns, DL.nin_ns, DL.eqD_ni, DL.neD_ni, DL.add_ni, DL.lt_ni, DL.le_ni, DL.tuple_sq, DL.int_bl, DL.rangeD_0, Int.toNat_natCast, DL.comp_n, DL.comp_nt, DL.comp_2, DL.comp_2t, DL.mapMM_pure, DL.filtMM_pure, DL.ifp_and, DL.ifp_or, DL.ifd_and, DL.ifd_or, DL.filtMM_yes]))
      (fun j ρ τ2 => τ2 = τ' ∧ j ≤ r2.length ∧ ∃ s8 s9 s10 s11, ρ = [.d (mD a1 b1 c1 d1 r1 e1), .d (mD a2 b2 c2 d2 r2 e2), .d (.str "unlike"), .d (ni r2.length), .own ((((r1.take near).flatMap fun row => r2.map (R row)) ++ (r2.take j).map (R row)).map (ns false)), .own ((((List.range near).flatMap Eo) ++ ((List.range j).filter fun far => (decide (near ∈ e1)) != (decide (far ∈ e2))).map fun far => near * r2.length + far).map ni), .d (ni near), .d (ns c1 row), s8, s9, s10, s11])
      ⟨rfl, Nat.zero_le _, s8, s9, s10, s11, by simp⟩ (by
        rintro j ⟨far, line⟩ ρ τ2 hj ⟨rfl, hjl, t8, t9, t10, t11, rfl⟩
        have hj2 := enumN_mem (List.mem_of_getElem? hj)
        have hj3 : far = j := by
          unfold enumN at hj
          rw [List.getElem?_zip_eq_some] at hj
          have := (List.getElem?_eq_some_iff.mp hj.1).2
          rw [List.getElem_range] at this
          exact this.symm
        subst hj3
        have hj2 : r2[far]? = some line := hj2
        have hlt2 : far < r2.length := (List.getElem?_eq_some_iff.mp hj2).1
        have wline : line.length = wd := by rw [← o2.nx_len hlt2, nx, List.getD_eq_getElem?_getD, hj2]; rfl
        have hz : ∀ {u0 u1 u2 u3 u4 u5 u6 u8 u10 u11 : S}, DL.iZipA (dVar 7) (dVar 9) [u0, u1, u2, u3, u4, u5, u6, .d (ns c1 row), u8, .d (ns c2 line), u10, u11] = M.pure ((row.zip line).map fun p => D.tup [ni p.1, ni p.2]) := fun {u0 u1 u2 u3 u4 u5 u6 u8 u10 u11} => zip_sq c1 c2 _ _ _ ni ni row line rfl rfl
        have hfz : fits ((row.zip line).map fun p => D.tup [ni p.1, ni p.2]) = true := fits_map (by rw [List.length_zip, wrow, wline, Nat.min_self]; exact Nat.le_trans hw size1000)
        have m1 : ∀ x, mulD (ni x) (ni r2.length) = some (ni (x * r2.length)) := fun x => mul_ni x _ (by omega)
        have i1 : inD (ni near) (ns d1 e1) = some (.bl (decide (near ∈ e1))) := in_ns d1 near e1
        have i2 : inD (ni far) (ns d2 e2) = some (.bl (decide (far ∈ e2))) := in_ns d2 far e2
        have g1 := v_is_good (decide (near ∈ e1)) (decide (far ∈ e2))
        have sz1 : (((r1.take near).flatMap fun row => r2.map (R row)) ++ (r2.take far).map (R row)).length < sizeLine := by
          have := alen near
          rw [List.length_append, List.length_map, List.length_take]
          exact Nat.lt_of_lt_of_le (show _ < 1000000 by omega) size2000
        have sz1b : ((((r1.take near).flatMap fun row => r2.map (R row))).map (ns false) ++ ((r2.take far).map (R row)).map (ns false)).length < sizeLine := by
          rw [← List.map_append, List.length_map]
          exact sz1
        have sz2 : (((List.range near).flatMap Eo) ++ ((List.range far).filter fun far => (decide (near ∈ e1)) != (decide (far ∈ e2))).map fun far => near * r2.length + far).length < sizeLine := by
          have := elen near (by omega)
          have h3 := List.length_filter_le (fun far => (decide (near ∈ e1)) != (decide (far ∈ e2))) (List.range far)
          rw [List.length_range] at h3
          rw [List.length_append, List.length_map]
          exact Nat.lt_of_lt_of_le (show _ < 1000000 by omega) size2000
        have tk : (r2.take (far + 1)).map (R row) = (r2.take far).map (R row) ++ [R row line] := by rw [List.take_succ, hj2, List.map_append]; rfl
        have er : ((row.zip line).map fun p => ni (p.1 * r2.length + p.2)) = (R row line).map ni := by
          show _ = (List.map _ _).map ni
          rw [List.map_map]
          rfl
        refine ⟨_, [.d (mD a1 b1 c1 d1 r1 e1), .d (mD a2 b2 c2 d2 r2 e2), .d (.str "unlike"), .d (ni r2.length), .own ((((r1.take near).flatMap fun row => r2.map (R row)) ++ (r2.take (far + 1)).map (R row)).map (ns false)), .own ((((List.range near).flatMap Eo) ++ ((List.range (far + 1)).filter fun far => (decide (near ∈ e1)) != (decide (far ∈ e2))).map fun far => near * r2.length + far).map ni), .d (ni near), .d (ns c1 row), .d (ni far), .d (ns c2 line), t10, t11], τ2, rfl, ?_, rfl, hlt2, _, _, _, _, rfl⟩
        rw [tk, List.range_succ, List.filter_append, List.map_append]
        by_cases hg : ((decide (near ∈ e1)) != (decide (far ∈ e2))) = true
        · have ef : [far].filter (fun far => (decide (near ∈ e1)) != (decide (far ∈ e2))) = [far] := by simp [hg]
          simp (implicitDefEqProofs := false) only [DL.sSeq, DL.seqO, DL.sIf, DL.sRet, DL.sSet, DL.sExpr, DL.sNo, DL.sNil, DL.sMany, DL.setS, DL.sAsg, DL.bO_pure, DL.dVar, DL.dC, DL.dOp, DL.dCB, DL.dCall, DL.aCons, DL.aNil, DL.dB, DL.bAnd, DL.bOr, DL.bNot, DL.dAnd, DL.dOr, DL.dNot, DL.dNeg, DL.dChain, DL.dIsi, DL.dIsi2, DL.tyD, DL.Ty.isa, DL.dSlice, DL.pNone, DL.pSome, DL.dTup, DL.dOf, DL.fLst, DL.fComp, DL.fItems, DL.wipeS, DL.iSeq, DL.iR1, DL.iR2, DL.iZip, DL.xVal, DL.xNil, DL.dIf, DL.gN, DL.gT, DL.gsN, DL.gsC, DL.aStar, DL.M.pure_bind, DL.M.lift_some, DL.toB_bl, DL.toI_int, DL.fits_map, DL.fits_nil, List.map_cons, List.map_nil, List.replicate, List.cons_append, List.nil_append, Nat.sub_zero, Nat.reduceSub, List.getElem?_cons_zero, List.getElem?_cons_succ, List.length_cons, List.length_nil, Nat.zero_add, Nat.reduceAdd, if_true, List.set_cons_zero, List.set_cons_succ, Option.bind_some, DL.items_tup, DL.items_lst, Bool.false_eq_true, if_false, Bool.not_true, Bool.not_false, Bool.true_and, Bool.and_true, Bool.false_and, DL.dTop, DL.items_sq, DL.len_sq, List.length_map, DL.ix_sq0, DL.ix_sq1, DL.in_ns, DL.nin_ns, DL.eqD_ni, DL.neD_ni, DL.add_ni, DL.lt_ni, DL.le_ni, DL.tuple_sq, DL.int_bl, DL.rangeD_0, Int.toNat_natCast, DL.comp_n, DL.comp_nt, DL.comp_2, DL.comp_2t, DL.mapMM_pure, DL.filtMM_pure, DL.ifp_and, DL.ifp_or, DL.ifd_and, DL.ifd_or, DL.filtMM_yes, i1, i2, g1, hg, ownAt, sApp, upOwn, List.length_map, sz1, sz2, m1, hz, hfz, er, ef]
          simp (implicitDefEqProofs := false) only [List.map_append, List.map_cons, List.map_nil, List.append_assoc, sz1b, if_true]
          rfl
        · have hg := Bool.eq_false_iff.mpr hg
          have ef : [far].filter (fun far => (decide (near ∈ e1)) != (decide (far ∈ e2))) = [] := by simp [hg]
          simp (implicitDefEqProofs := false) only [DL.sSeq, DL.seqO, DL.sIf, DL.sRet, DL.sSet, DL.sExpr, DL.sNo, DL.sNil, DL.sMany, DL.setS, DL.sAsg, DL.bO_pure, DL.dVar, DL.dC, DL.dOp, DL.dCB, DL.dCall, DL.aCons, DL.aNil, DL.dB, DL.bAnd, DL.bOr, DL.bNot, DL.dAnd, DL.dOr, DL.dNot, DL.dNeg, DL.dChain, DL.dIsi, DL.dIsi2, DL.tyD, DL.Ty.isa, DL.dSlice, DL.pNone, DL.pSome, DL.dTup, DL.dOf, DL.fLst, DL.fComp, DL.fItems, DL.wipeS, DL.iSeq, DL.iR1, DL.iR2, DL.iZip, DL.xVal, DL.xNil, DL.dIf, DL.gN, DL.gT, DL.gsN, DL.gsC, DL.aStar, DL.M.pure_bind, DL.M.lift_some, DL.toB_bl, DL.toI_int, DL.fits_map, DL.fits_nil, List.map_cons, List.map_nil, List.replicate, List.cons_append, List.nil_append, Nat.sub_zero, Nat.reduceSub, List.getElem?_cons_zero, List.getElem?_cons_succ, List.length_cons, List.length_nil, Nat.zero_add, Nat.reduceAdd, if_true, List.set_cons_zero, List.set_cons_succ, Option.bind_some, DL.items_tup, DL.items_lst, Bool.false_eq_true, if_false, Bool.not_true, Bool.not_false, Bool.true_and, Bool.and_true, Bool.false_and, DL.dTop, DL.items_sq, DL.len_sq, List.length_map, DL.ix_sq0, DL.ix_sq1, DL.in_ns, DL.nin_ns, DL.eqD_ni, DL.neD_ni, DL.add_ni, DL.lt_ni, DL.le_ni, DL.tuple_sq, DL.int_bl, DL.rangeD_0, Int.toNat_natCast, DL.comp_n, DL.comp_nt, DL.comp_2, DL.comp_2t, DL.mapMM_pure, DL.filtMM_pure, DL.ifp_and, DL.ifp_or, DL.ifd_and, DL.ifd_or, DL.filtMM_yes, i1, i2, g1, hg, ownAt, sApp, upOwn, List.length_map, sz1, sz2, m1, hz, hfz, er, ef]
          simp (implicitDefEqProofs := false) only [List.map_append, List.map_cons, List.map_nil, List.append_assoc, List.append_nil, sz1b, if_true]
          rfl)
    refine ⟨ρ2, τ2, rfl, q1, ?_⟩
    obtain ⟨rfl, _, t8, t9, t10, t11, rfl⟩ := q2
    refine ⟨rfl, hlt, .d (ni near), .d (ns c1 row), t8, t9, t10, t11, ?_⟩
    rw [enumN_length, List.take_length, List.take_succ, hi2, List.range_succ, List.flatMap_append, List.flatMap_append]
    show _ = [_, _, _, _, S.own (((((r1.take near).flatMap fun row => r2.map (R row)) ++ [row].flatMap fun row => r2.map (R row))).map (ns false)), S.own (((List.range near).flatMap Eo ++ [near].flatMap Eo).map ni), _, _, _, _, _, _]
    simp only [List.flatMap_cons, List.flatMap_nil, List.append_nil]
    rfl
  · rintro ρ τ' ⟨rfl, _, s6, s7, s8, s9, s10, s11, rfl⟩
    have f1 : ((r1.take (enumN r1).length).flatMap fun row => r2.map (R row)) = sideR r1 r2 := by rw [enumN_length, List.take_length]; rfl
    have f2 : (List.range (enumN r1).length).flatMap Eo = sideE (fun a b => a != b) r1.length r2.length e1 e2 := by rw [enumN_length]; rfl
    rw [f1, f2]
    have fl : ∀ p : Rows × List Nat, flatD (mD true true true true p.1 p.2) = true := fun p => by
      have h1 : ∀ xs : List Nat, flatDs (xs.map ni) = true := fun xs => by induction xs with | nil => rfl | cons x xs ih => rw [List.map_cons, flatDs, ih]; rfl
      have h2 : ∀ xs : Rows, flatDs (xs.map (ns true)) = true := fun xs => by
        induction xs with
        | nil => rfl
        | cons x xs ih =>
          rw [List.map_cons, flatDs, ih, Bool.and_true]
          show flatDs (x.map ni) = true
          exact h1 x
      show flatDs [.tup (p.1.map (ns true)), .tup (p.2.map ni)] = true
      rw [flatDs, flatDs, flatD, flatD, h2, h1]; rfl
    have fl := fl (leastR N (sideR r1 r2) (sideE (fun a b => a != b) r1.length r2.length e1 e2), leastE N (sideR r1 r2) (sideE (fun a b => a != b) r1.length r2.length e1 e2))
    simp (implicitDefEqProofs := false) only [DL.sSeq, DL.seqO, DL.sIf, DL.sRet, DL.sSet, DL.sExpr, DL.sNo, DL.sNil, DL.sMany, DL.setS, DL.sAsg, DL.bO_pure, DL.dVar, DL.dC, DL.dOp, DL.dCB, DL.dCall, DL.aCons, DL.aNil, DL.dB, DL.bAnd, DL.bOr, DL.bNot, DL.dAnd, DL.dOr, DL.dNot, DL.dNeg, DL.dChain, DL.dIsi, DL.dIsi2, DL.tyD, DL.Ty.isa, DL.dSlice, DL.pNone, DL.pSome, DL.dTup, DL.dOf, DL.fLst, DL.fComp, DL.fItems, DL.wipeS, DL.iSeq, DL.iR1, DL.iR2, DL.iZip, DL.xVal, DL.xNil, DL.dIf, DL.gN, DL.gT, DL.gsN, DL.gsC, DL.aStar, DL.M.pure_bind, DL.M.lift_some, DL.toB_bl, DL.toI_int, DL.fits_map, DL.fits_nil, List.map_cons, List.map_nil, List.replicate, List.cons_append, List.nil_append, Nat.sub_zero, Nat.reduceSub, List.getElem?_cons_zero, List.getElem?_cons_succ, List.length_cons, List.length_nil, Nat.zero_add, Nat.reduceAdd, if_true, List.set_cons_zero, List.set_cons_succ, Option.bind_some, DL.items_tup, DL.items_lst, Bool.false_eq_true, if_false, Bool.not_true, Bool.not_false, Bool.true_and, Bool.and_true, Bool.false_and, DL.dTop, DL.items_sq, DL.len_sq, List.length_map, DL.ix_sq0, DL.ix_sq1, DL.in_ns, DL.nin_ns, DL.eqD_ni, DL.neD_ni, DL.add_ni, DL.lt_ni, DL.le_ni, DL.tuple_sq, DL.int_bl, DL.rangeD_0, Int.toNat_natCast, DL.comp_n, DL.comp_nt, DL.comp_2, DL.comp_2t, DL.mapMM_pure, DL.filtMM_pure, DL.ifp_and, DL.ifp_or, DL.ifd_and, DL.ifd_or, DL.filtMM_yes, DL.dCallT, hl, onlyFlat, fl]
end
/-! ### the least text -/
def optT : Option (List Nat) → D
  | some u => ns true u
  | none => .non
theorem wgrow_snoc {S : Type} [DecidableEq S] (u : List Nat) (g : S) : ∀ (gs : List S) (l : Nat) (line : List (List Nat × S)), wgrow u l (gs ++ [g]) line = wadd (wgrow u l gs line) u (l + gs.length) g
  | [], _, _ => rfl
  | h :: gs, l, line => by
    rw [List.cons_append, wgrow, wgrow, wgrow_snoc u g gs (l + 1), List.length_cons]
    congr 1
    omega
structure Lin (n t : Nat) (line : List (List Nat × Nat)) : Prop where
  nd : (line.map (·.2)).Nodup
  lt : ∀ e ∈ line, e.2 < n
  le : ∀ e ∈ line, e.1.length ≤ t
theorem Lin.add {n t : Nat} {line : List (List Nat × Nat)} {u : List Nat} {l g : Nat} (h : Lin n t line) (hu : u.length < t) (hg : g < n) : Lin n t (wadd line u l g) := by
  unfold wadd
  split
  · exact h
  · rename_i hn
    refine ⟨?_, fun e he => ?_, fun e he => ?_⟩
    · rw [List.map_append, List.nodup_append]
      refine ⟨h.nd, by simp, fun a ha b hb e => ?_⟩
      simp only [List.map_cons, List.map_nil, List.mem_singleton] at hb
      rw [e, hb] at ha
      exact hn ha
    · rcases List.mem_append.mp he with he | he
      · exact h.lt e he
      · rw [List.mem_singleton.mp he]; exact hg
    · rcases List.mem_append.mp he with he | he
      · exact h.le e he
      · rw [List.mem_singleton.mp he, List.length_append]; exact hu
theorem v_first_of (o : Ok wd rows) {N : Nat} (hN : rows.length < N) (hf : N ≤ 10000) (hw : wd ≤ 1000) : m_first_of [nss b c rows, ns e ends, ni 0] = M.pure (optT (firstOf N rows ends)) := by
  let L3 := fun line : List (List Nat × Nat) => line.map fun x => ni x.2
  let L4 := fun line : List (List Nat × Nat) => line.map fun x => ns true x.1
  refine runG_rt rfl fun τ => ?_
  refine st_do (ρ1 := [.d (nss b c rows), .d (ns e ends), .d (ni 0), .own (L3 [([], 0)]), .own (L4 [([], 0)]), .d (ni 0), .un, .un]) (τ' := τ) (by simp (implicitDefEqProofs := false) only [DL.sSeq, DL.seqO, DL.sIf, DL.sRet, DL.sSet, DL.sExpr, DL.sNo, DL.sNil, DL.sMany, DL.setS, DL.sAsg, DL.bO_pure, DL.dVar, DL.dC, DL.dOp, DL.dCB, DL.dCall, DL.aCons, DL.aNil, DL.dB, DL.bAnd, DL.bOr, DL.bNot, DL.dAnd, DL.dOr, DL.dNot, DL.dNeg, DL.dChain, DL.dIsi, DL.dIsi2, DL.tyD, DL.Ty.isa, DL.dSlice, DL.pNone, DL.pSome, DL.dTup, DL.dOf, DL.fLst, DL.fComp, DL.fItems, DL.wipeS, DL.iSeq, DL.iR1, DL.iR2, DL.iZip, DL.xVal, DL.xNil, DL.dIf, DL.gN, DL.gT, DL.gsN, DL.gsC, DL.aStar, DL.M.pure_bind, DL.M.lift_some, DL.toB_bl, DL.toI_int, DL.fits_map, DL.fits_nil, List.map_cons, List.map_nil, List.replicate, List.cons_append, List.nil_append, Nat.sub_zero, Nat.reduceSub, List.getElem?_cons_zero, List.getElem?_cons_succ, List.length_cons, List.length_nil, Nat.zero_add, Nat.reduceAdd, if_true, List.set_cons_zero, List.set_cons_succ, Option.bind_some, DL.items_tup, DL.items_lst, Bool.false_eq_true, if_false, Bool.not_true, Bool.not_false, Bool.true_and, Bool.and_true, Bool.false_and, DL.dTop, DL.xOwn]; rfl) ?_
  have hw0 : onO ((sWhile fuel (dB (dOp ltD (dVar 5) (dCB lenD (aCons (dTop 3) aNil)))) (sSeq (sIf (dB (dOp inD (dOp ixD (dTop 3) (dVar 5)) (dVar 1))) (sRet (dOp ixD (dTop 4) (dVar 5))) sNil)
    (sSeq (sFor (DL.iEnum (dOp ixD (dVar 0) (dOp ixD (dTop 3) (dVar 5)))) (gT 2 (gsC (gN 6) (gsC (gN 7) gsN))) (sIf (dB (dOp ninD (dVar 7) (dTop 3))) (sSeq (ownAt 3 (sApp 3 (dVar 7)))
    (ownAt 4 (sApp 4 (dTup (aStar (dOp ixD (dTop 4) (dVar 5)) (aCons (dOp addD (dVar 6) (dC (.int 1))) aNil)))))) sNil))
    (sSet 5 (dOp addD (dVar 5) (dC (.int 1))))))) [.d (nss b c rows), .d (ns e ends), .d (ni 0), .own (L3 [([], 0)]), .own (L4 [([], 0)]), .d (ni 0), .un, .un] τ) (fun ρ τ' => τ' = τ ∧ firstOf N rows ends = none) (fun d τ' => τ' = τ ∧ d = optT (firstOf N rows ends)) (fun _ _ => False) := by
    refine while_on (I := fun m ρ τ' => τ' = τ ∧ ∃ t line s6 s7, m = N - t ∧ t < N ∧ Lin rows.length t line ∧ wbfs (nx rows) (fun s => decide (s ∈ ends)) (N - t) t line = firstOf N rows ends ∧ ρ = [.d (nss b c rows), .d (ns e ends), .d (ni 0), .own (L3 line), .own (L4 line), .d (ni t), s6, s7])
      fuel N _ τ ⟨rfl, 0, [([], 0)], .un, .un, rfl, by omega, ⟨by simp, fun x hx => by rw [List.mem_singleton.mp hx]; exact o.pos, fun x hx => by rw [List.mem_singleton.mp hx]; exact Nat.le_refl _⟩, rfl, rfl⟩ (by show N < 100000; omega) ?_
    rintro m ρ τ' ⟨rfl, t, line, s6, s7, rfl, htN, P, hb, rfl⟩
    have ll : line.length ≤ rows.length := by
      have := nodup_le P.nd fun x hx => by
        obtain ⟨y, hy, rfl⟩ := List.mem_map.mp hx
        exact P.lt y hy
      rwa [List.length_map] at this
    have hl : lenD [.lst (L3 line)] = some (ni line.length) := by
      show some (D.int ((L3 line).length : Nat)) = _
      rw [List.length_map]
    refine ⟨decide (t < line.length), τ', by simp (implicitDefEqProofs := false) only [DL.sSeq, DL.seqO, DL.sIf, DL.sRet, DL.sSet, DL.sExpr, DL.sNo, DL.sNil, DL.sMany, DL.setS, DL.sAsg, DL.bO_pure, DL.dVar, DL.dC, DL.dOp, DL.dCB, DL.dCall, DL.aCons, DL.aNil, DL.dB, DL.bAnd, DL.bOr, DL.bNot, DL.dAnd, DL.dOr, DL.dNot, DL.dNeg, DL.dChain, DL.dIsi, DL.dIsi2, DL.tyD, DL.Ty.isa, DL.dSlice, DL.pNone, DL.pSome, DL.dTup, DL.dOf, DL.fLst, DL.fComp, DL.fItems, DL.wipeS, DL.iSeq, DL.iR1, DL.iR2, DL.iZip, DL.xVal, DL.xNil, DL.dIf, DL.gN, DL.gT, DL.gsN, DL.gsC, DL.aStar, DL.M.pure_bind, DL.M.lift_some, DL.toB_bl, DL.toI_int, DL.fits_map, DL.fits_nil, List.map_cons, List.map_nil, List.replicate, List.cons_append, List.nil_append, Nat.sub_zero, Nat.reduceSub, List.getElem?_cons_zero, List.getElem?_cons_succ, List.length_cons, List.length_nil, Nat.zero_add, Nat.reduceAdd, if_true, List.set_cons_zero, List.set_cons_succ, Option.bind_some, DL.items_tup, DL.items_lst, Bool.false_eq_true, if_false, Bool.not_true, Bool.not_false, Bool.true_and, Bool.and_true, Bool.false_and, DL.dTop, DL.items_sq, DL.len_sq, List.length_map, DL.ix_sq0, DL.ix_sq1, DL.in_ns, DL.nin_ns, DL.eqD_ni, DL.neD_ni, DL.add_ni, DL.lt_ni, DL.le_ni, DL.tuple_sq, DL.int_bl, DL.rangeD_0, Int.toNat_natCast, DL.comp_n, DL.comp_nt, DL.comp_2, DL.comp_2t, DL.mapMM_pure, DL.filtMM_pure, DL.ifp_and, DL.ifp_or, DL.ifd_and, DL.ifd_or, DL.filtMM_yes, hl]; rfl, fun h => ⟨rfl, ?_⟩, fun h => ?_⟩
    · have h := of_decide_eq_false h
      rw [← hb]
      have hn : line[t]? = none := List.getElem?_eq_none (by omega)
      cases q : N - t with
      | zero => rfl
      | succ k => rw [wbfs, hn]
    · have h := of_decide_eq_true h
      obtain ⟨⟨u, s⟩, hu⟩ : ∃ x, line[t]? = some x := ⟨_, List.getElem?_eq_getElem h⟩
      have hmem := List.mem_of_getElem? hu
      have hs := P.lt _ hmem
      have hul := P.le _ hmem
      have hs : s < rows.length := hs
      have hul : u.length ≤ t := hul
      have x3 : ∀ {line' : List (List Nat × Nat)}, line'[t]? = some (u, s) → ixD (.lst (L3 line')) (ni t) = some (ni s) := fun {line'} q => by
        show ixD (.lst (line'.map fun x => ni x.2)) (.int (t : Int)) = _
        rw [ix_lst, q]
        rfl
      have x4 : ∀ {line' : List (List Nat × Nat)}, line'[t]? = some (u, s) → ixD (.lst (L4 line')) (ni t) = some (ns true u) := fun {line'} q => by
        show ixD (.lst (line'.map fun x => ns true x.1)) (.int (t : Int)) = _
        rw [ix_lst, q]
        rfl
      have hin : inD (ni s) (ns e ends) = some (.bl (decide (s ∈ ends))) := in_ns e s ends
      have hstep : wbfs (nx rows) (fun s => decide (s ∈ ends)) (N - t) t line = if decide (s ∈ ends) = true then some u else wbfs (nx rows) (fun s => decide (s ∈ ends)) (N - (t + 1)) (t + 1) (wgrow u 1 (nx rows s) line) := by
        rw [show N - t = N - (t + 1) + 1 by omega, wbfs, hu]
      by_cases he : s ∈ ends
      · rw [if_pos (decide_eq_true he)] at hstep
        have e2 : firstOf N rows ends = some u := by rw [← hb, hstep]
        simp (implicitDefEqProofs := false) only [DL.sSeq, DL.seqO, DL.sIf, DL.sRet, DL.sSet, DL.sExpr, DL.sNo, DL.sNil, DL.sMany, DL.setS, DL.sAsg, DL.bO_pure, DL.dVar, DL.dC, DL.dOp, DL.dCB, DL.dCall, DL.aCons, DL.aNil, DL.dB, DL.bAnd, DL.bOr, DL.bNot, DL.dAnd, DL.dOr, DL.dNot, DL.dNeg, DL.dChain, DL.dIsi, DL.dIsi2, DL.tyD, DL.Ty.isa, DL.dSlice, DL.pNone, DL.pSome, DL.dTup, DL.dOf, DL.fLst, DL.fComp, DL.fItems, DL.wipeS, DL.iSeq, DL.iR1, DL.iR2, DL.iZip, DL.xVal, DL.xNil, DL.dIf, DL.gN, DL.gT, DL.gsN, DL.gsC, DL.aStar, DL.M.pure_bind, DL.M.lift_some, DL.toB_bl, DL.toI_int, DL.fits_map, DL.fits_nil, List.map_cons, List.map_nil, List.replicate, List.cons_append, List.nil_append, Nat.sub_zero, Nat.reduceSub, List.getElem?_cons_zero, List.getElem?_cons_succ, List.length_cons, List.length_nil, Nat.zero_add, Nat.reduceAdd, if_true, List.set_cons_zero, List.set_cons_succ, Option.bind_some, DL.items_tup, DL.items_lst, Bool.false_eq_true, if_false, Bool.not_true, Bool.not_false, Bool.true_and, Bool.and_true, Bool.false_and, DL.dTop, DL.items_sq, DL.len_sq, List.length_map, DL.ix_sq0, DL.ix_sq1, DL.in_ns, DL.nin_ns, DL.eqD_ni, DL.neD_ni, DL.add_ni, DL.lt_ni, DL.le_ni, DL.tuple_sq, DL.int_bl, DL.rangeD_0, Int.toNat_natCast, DL.comp_n, DL.comp_nt, DL.comp_2, DL.comp_2t, DL.mapMM_pure, DL.filtMM_pure, DL.ifp_and, DL.ifp_or, DL.ifd_and, DL.ifd_or, DL.filtMM_yes, x3 hu, x4 hu, hin, decide_eq_true he]
        exact ⟨rfl, by rw [e2]; rfl⟩
      · rw [if_neg (by rw [decide_eq_false he]; decide)] at hstep
        have hen : DL.iEnum (dOp ixD (dVar 0) (dOp ixD (dTop 3) (dVar 5))) [.d (nss b c rows), .d (ns e ends), .d (ni 0), .own (L3 line), .own (L4 line), .d (ni t), s6, s7] = M.pure ((enumN (nx rows s)).map fun p => D.tup [ni p.1, ni p.2]) := enum_ns (b := c) _ (by
          have e1 := ix_nss (b := b) (c := c) hs
          simp (implicitDefEqProofs := false) only [DL.sSeq, DL.seqO, DL.sIf, DL.sRet, DL.sSet, DL.sExpr, DL.sNo, DL.sNil, DL.sMany, DL.setS, DL.sAsg, DL.bO_pure, DL.dVar, DL.dC, DL.dOp, DL.dCB, DL.dCall, DL.aCons, DL.aNil, DL.dB, DL.bAnd, DL.bOr, DL.bNot, DL.dAnd, DL.dOr, DL.dNot, DL.dNeg, DL.dChain, DL.dIsi, DL.dIsi2, DL.tyD, DL.Ty.isa, DL.dSlice, DL.pNone, DL.pSome, DL.dTup, DL.dOf, DL.fLst, DL.fComp, DL.fItems, DL.wipeS, DL.iSeq, DL.iR1, DL.iR2, DL.iZip, DL.xVal, DL.xNil, DL.dIf, DL.gN, DL.gT, DL.gsN, DL.gsC, DL.aStar, DL.M.pure_bind, DL.M.lift_some, DL.toB_bl, DL.toI_int, DL.fits_map, DL.fits_nil, List.map_cons, List.map_nil, List.replicate, List.cons_append, List.nil_append, Nat.sub_zero, Nat.reduceSub, List.getElem?_cons_zero, List.getElem?_cons_succ, List.length_cons, List.length_nil, Nat.zero_add, Nat.reduceAdd, if_true, List.set_cons_zero, List.set_cons_succ, Option.bind_some, DL.items_tup, DL.items_lst, Bool.false_eq_true, if_false, Bool.not_true, Bool.not_false, Bool.true_and, Bool.and_true, Bool.false_and, DL.dTop, x3 hu, e1])
        obtain ⟨ρ2, τ2, q1, q2⟩ := for_nx (g := gT 2 (gsC (gN 6) (gsC (gN 7) gsN))) (τ := τ') (b := sIf (dB (dOp ninD (dVar 7) (dTop 3))) (sSeq (ownAt 3 (sApp 3 (dVar 7)))
            (ownAt 4 (sApp 4 (dTup (aStar (dOp ixD (dTop 4) (dVar 5)) (aCons (dOp addD (dVar 6) (dC (.int 1))) aNil)))))) sNil) hen
          (fun i ρ τ2 => τ2 = τ' ∧ i ≤ (nx rows s).length ∧ Lin rows.length (t + 1) (wgrow u 1 ((nx rows s).take i) line) ∧ ∃ s6 s7, ρ = [.d (nss b c rows), .d (ns e ends), .d (ni 0), .own (L3 (wgrow u 1 ((nx rows s).take i) line)), .own (L4 (wgrow u 1 ((nx rows s).take i) line)), .d (ni t), s6, s7])
          ⟨rfl, Nat.zero_le _, ⟨P.nd, P.lt, fun x hx => Nat.le_succ_of_le (P.le x hx)⟩, s6, s7, rfl⟩ (by
            rintro i ⟨l, g⟩ ρ τ2 hi ⟨rfl, hil, Q, t6, t7, rfl⟩
            have hi2 := enumN_mem (List.mem_of_getElem? hi)
            have hi3 : l = i := by
              unfold enumN at hi
              rw [List.getElem?_zip_eq_some] at hi
              have := (List.getElem?_eq_some_iff.mp hi.1).2
              rw [List.getElem_range] at this
              exact this.symm
            subst hi3
            have hi2 : (nx rows s)[l]? = some g := hi2
            have hlt : l < (nx rows s).length := (List.getElem?_eq_some_iff.mp hi2).1
            have hg : g < rows.length := o.nx_lt hs g (List.mem_of_getElem? hi2)
            have tk : (nx rows s).take (l + 1) = (nx rows s).take l ++ [g] := by rw [List.take_succ, hi2]; rfl
            have htl : ((nx rows s).take l).length = l := by rw [List.length_take]; omega
            have gs : wgrow u 1 ((nx rows s).take (l + 1)) line = wadd (wgrow u 1 ((nx rows s).take l) line) u (l + 1) g := by
              rw [tk, wgrow_snoc, htl, Nat.add_comm]
            have hpre : (wgrow u 1 ((nx rows s).take l) line)[t]? = some (u, s) := pre_at (wgrow_pre u _ _ _) hu
            have hnin : ninD (ni g) (.lst (L3 (wgrow u 1 ((nx rows s).take l) line))) = some (.bl (!decide (g ∈ (wgrow u 1 ((nx rows s).take l) line).map (·.2)))) := by
              have : ninD (ni g) (.lst (((wgrow u 1 ((nx rows s).take l) line).map (·.2)).map ni)) = some (.bl (!decide (g ∈ (wgrow u 1 ((nx rows s).take l) line).map (·.2)))) := nin_ns false g ((wgrow u 1 ((nx rows s).take l) line).map fun x : List Nat × Nat => x.2)
              rw [List.map_map] at this
              exact this
            have wl : (wgrow u 1 ((nx rows s).take l) line).length ≤ rows.length := by
              have := nodup_le Q.nd fun x hx => by
                obtain ⟨y, hy, rfl⟩ := List.mem_map.mp hx
                exact Q.lt y hy
              rwa [List.length_map] at this
            have z3 : (L3 (wgrow u 1 ((nx rows s).take l) line)).length < sizeLine := by rw [List.length_map]; exact Nat.lt_of_lt_of_le (show _ < 1000000 by omega) size2000
            have z4 : (L4 (wgrow u 1 ((nx rows s).take l) line)).length < sizeLine := by rw [List.length_map]; exact Nat.lt_of_lt_of_le (show _ < 1000000 by omega) size2000
            have a1 : addD (ni l) (.int 1) = some (ni (l + 1)) := add_ni l 1
            have ht : u.map ni ++ [ni (l + 1)] = (u ++ [l + 1]).map ni := by rw [List.map_append]; rfl
            have hft : fits (u.map ni ++ [ni (l + 1)]) = true := fits_le' (by rw [List.length_append, List.length_map]; exact Nat.le_trans (show u.length + 1 ≤ 1000000 by omega) size2000)
            refine ⟨_, [.d (nss b c rows), .d (ns e ends), .d (ni 0), .own (L3 (wgrow u 1 ((nx rows s).take (l + 1)) line)), .own (L4 (wgrow u 1 ((nx rows s).take (l + 1)) line)), .d (ni t), .d (ni l), .d (ni g)], τ2, rfl, ?_, rfl, hlt, ?_, _, _, rfl⟩
            · rw [gs]
              unfold wadd
              by_cases hm : g ∈ (wgrow u 1 ((nx rows s).take l) line).map (·.2)
              · rw [if_pos hm]
                simp (implicitDefEqProofs := false) only [DL.sSeq, DL.seqO, DL.sIf, DL.sRet, DL.sSet, DL.sExpr, DL.sNo, DL.sNil, DL.sMany, DL.setS, DL.sAsg, DL.bO_pure, DL.dVar, DL.dC, DL.dOp, DL.dCB, DL.dCall, DL.aCons, DL.aNil, DL.dB, DL.bAnd, DL.bOr, DL.bNot, DL.dAnd, DL.dOr, DL.dNot, DL.dNeg, DL.dChain, DL.dIsi, DL.dIsi2, DL.tyD, DL.Ty.isa, DL.dSlice, DL.pNone, DL.pSome, DL.dTup, DL.dOf, DL.fLst, DL.fComp, DL.fItems, DL.wipeS, DL.iSeq, DL.iR1, DL.iR2, DL.iZip, DL.xVal, DL.xNil, DL.dIf, DL.gN, DL.gT, DL.gsN, DL.gsC, DL.aStar, DL.M.pure_bind, DL.M.lift_some, DL.toB_bl, DL.toI_int, DL.fits_map, DL.fits_nil, List.map_cons, List.map_nil, List.replicate, List.cons_append, List.nil_append, Nat.sub_zero, Nat.reduceSub, List.getElem?_cons_zero, List.getElem?_cons_succ, List.length_cons, List.length_nil, Nat.zero_add, Nat.reduceAdd, if_true, List.set_cons_zero, List.set_cons_succ, Option.bind_some, DL.items_tup, DL.items_lst, Bool.false_eq_true, if_false, Bool.not_true, Bool.not_false, Bool.true_and, Bool.and_true, Bool.false_and, DL.dTop, DL.items_sq, DL.len_sq, List.length_map, DL.ix_sq0, DL.ix_sq1, DL.in_ns, DL.nin_ns, DL.eqD_ni, DL.neD_ni, DL.add_ni, DL.lt_ni, DL.le_ni, DL.tuple_sq, DL.int_bl, DL.rangeD_0, Int.toNat_natCast, DL.comp_n, DL.comp_nt, DL.comp_2, DL.comp_2t, DL.mapMM_pure, DL.filtMM_pure, DL.ifp_and, DL.ifp_or, DL.ifd_and, DL.ifd_or, DL.filtMM_yes, hnin, hm, decide_true]
              · rw [if_neg hm]
                simp (implicitDefEqProofs := false) only [DL.sSeq, DL.seqO, DL.sIf, DL.sRet, DL.sSet, DL.sExpr, DL.sNo, DL.sNil, DL.sMany, DL.setS, DL.sAsg, DL.bO_pure, DL.dVar, DL.dC, DL.dOp, DL.dCB, DL.dCall, DL.aCons, DL.aNil, DL.dB, DL.bAnd, DL.bOr, DL.bNot, DL.dAnd, DL.dOr, DL.dNot, DL.dNeg, DL.dChain, DL.dIsi, DL.dIsi2, DL.tyD, DL.Ty.isa, DL.dSlice, DL.pNone, DL.pSome, DL.dTup, DL.dOf, DL.fLst, DL.fComp, DL.fItems, DL.wipeS, DL.iSeq, DL.iR1, DL.iR2, DL.iZip, DL.xVal, DL.xNil, DL.dIf, DL.gN, DL.gT, DL.gsN, DL.gsC, DL.aStar, DL.M.pure_bind, DL.M.lift_some, DL.toB_bl, DL.toI_int, DL.fits_map, DL.fits_nil, List.map_cons, List.map_nil, List.replicate, List.cons_append, List.nil_append, Nat.sub_zero, Nat.reduceSub, List.getElem?_cons_zero, List.getElem?_cons_succ, List.length_cons, List.length_nil, Nat.zero_add, Nat.reduceAdd, if_true, List.set_cons_zero, List.set_cons_succ, Option.bind_some, DL.items_tup, DL.items_lst, Bool.false_eq_true, if_false, Bool.not_true, Bool.not_false, Bool.true_and, Bool.and_true, Bool.false_and, DL.dTop, DL.items_sq, DL.len_sq, List.length_map, DL.ix_sq0, DL.ix_sq1, DL.in_ns, DL.nin_ns, DL.eqD_ni, DL.neD_ni, DL.add_ni, DL.lt_ni, DL.le_ni, DL.tuple_sq, DL.int_bl, DL.rangeD_0, Int.toNat_natCast, DL.comp_n, DL.comp_nt, DL.comp_2, DL.comp_2t, DL.mapMM_pure, DL.filtMM_pure, DL.ifp_and, DL.ifp_or, DL.ifd_and, DL.ifd_or, DL.filtMM_yes, hnin, hm, decide_false, ownAt, sApp, upOwn, z3, z4, x4 hpre, a1, hft]
                show O.nx [_, _, _, .own (L3 _ ++ [ni g]), .own (L4 _ ++ [.tup (u.map ni ++ [ni (l + 1)])]), _, _, _] _ = O.nx [_, _, _, .own (List.map _ (_ ++ [_])), .own (List.map _ (_ ++ [_])), _, _, _] _
                rw [List.map_append, List.map_append, ht]
                rfl
            · rw [gs]
              exact Q.add (by omega) hg)
        obtain ⟨rfl, _, Q, t6, t7, rfl⟩ := q2
        rw [enumN_length, List.take_length] at Q q1
        have a1 : addD (ni t) (.int 1) = some (ni (t + 1)) := add_ni t 1
        have lw : (wgrow u 1 (nx rows s) line).length ≤ rows.length := by
          have := nodup_le Q.nd fun x hx => by
            obtain ⟨y, hy, rfl⟩ := List.mem_map.mp hx
            exact Q.lt y hy
          rwa [List.length_map] at this
        refine (fun X (e : X = O.nx [.d (nss b c rows), .d (ns e ends), .d (ni 0), .own (L3 (wgrow u 1 (nx rows s) line)), .own (L4 (wgrow u 1 (nx rows s) line)), .d (ni (t + 1)), t6, t7] τ2) => (e ▸ ⟨N - (t + 1), by omega, rfl, t + 1, _, t6, t7, rfl, by omega, Q, by rw [← hb, hstep], rfl⟩ : onB X _ _ _ _)) _ ?_
        refine st_do (ρ1 := [.d (nss b c rows), .d (ns e ends), .d (ni 0), .own (L3 line), .own (L4 line), .d (ni t), s6, s7]) (τ' := τ2) (by simp (implicitDefEqProofs := false) only [DL.sSeq, DL.seqO, DL.sIf, DL.sRet, DL.sSet, DL.sExpr, DL.sNo, DL.sNil, DL.sMany, DL.setS, DL.sAsg, DL.bO_pure, DL.dVar, DL.dC, DL.dOp, DL.dCB, DL.dCall, DL.aCons, DL.aNil, DL.dB, DL.bAnd, DL.bOr, DL.bNot, DL.dAnd, DL.dOr, DL.dNot, DL.dNeg, DL.dChain, DL.dIsi, DL.dIsi2, DL.tyD, DL.Ty.isa, DL.dSlice, DL.pNone, DL.pSome, DL.dTup, DL.dOf, DL.fLst, DL.fComp, DL.fItems, DL.wipeS, DL.iSeq, DL.iR1, DL.iR2, DL.iZip, DL.xVal, DL.xNil, DL.dIf, DL.gN, DL.gT, DL.gsN, DL.gsC, DL.aStar, DL.M.pure_bind, DL.M.lift_some, DL.toB_bl, DL.toI_int, DL.fits_map, DL.fits_nil, List.map_cons, List.map_nil, List.replicate, List.cons_append, List.nil_append, Nat.sub_zero, Nat.reduceSub, List.getElem?_cons_zero, List.getElem?_cons_succ, List.length_cons, List.length_nil, Nat.zero_add, Nat.reduceAdd, if_true, List.set_cons_zero, List.set_cons_succ, Option.bind_some, DL.items_tup, DL.items_lst, Bool.false_eq_true, if_false, Bool.not_true, Bool.not_false, Bool.true_and, Bool.and_true, Bool.false_and, DL.dTop, DL.items_sq, DL.len_sq, List.length_map, DL.ix_sq0, DL.ix_sq1, DL.in_ns, DL.nin_ns, DL.eqD_ni, DL.neD_ni, DL.add_ni, DL.lt_ni, DL.le_ni, DL.tuple_sq, DL.int_bl, DL.rangeD_0, Int.toNat_natCast, DL.comp_n, DL.comp_nt, DL.comp_2, DL.comp_2t, DL.mapMM_pure, DL.filtMM_pure, DL.ifp_and, DL.ifp_or, DL.ifd_and, DL.ifd_or, DL.filtMM_yes, x3 hu, hin, decide_eq_false he]) ?_
        refine st_do q1 ?_
        simp (implicitDefEqProofs := false) only [DL.sSeq, DL.seqO, DL.sIf, DL.sRet, DL.sSet, DL.sExpr, DL.sNo, DL.sNil, DL.sMany, DL.setS, DL.sAsg, DL.bO_pure, DL.dVar, DL.dC, DL.dOp, DL.dCB, DL.dCall, DL.aCons, DL.aNil, DL.dB, DL.bAnd, DL.bOr, DL.bNot, DL.dAnd, DL.dOr, DL.dNot, DL.dNeg, DL.dChain, DL.dIsi, DL.dIsi2, DL.tyD, DL.Ty.isa, DL.dSlice, DL.pNone, DL.pSome, DL.dTup, DL.dOf, DL.fLst, DL.fComp, DL.fItems, DL.wipeS, DL.iSeq, DL.iR1, DL.iR2, DL.iZip, DL.xVal, DL.xNil, DL.dIf, DL.gN, DL.gT, DL.gsN, DL.gsC, DL.aStar, DL.M.pure_bind, DL.M.lift_some, DL.toB_bl, DL.toI_int, DL.fits_map, DL.fits_nil, List.map_cons, List.map_nil, List.replicate, List.cons_append, List.nil_append, Nat.sub_zero, Nat.reduceSub, List.getElem?_cons_zero, List.getElem?_cons_succ, List.length_cons, List.length_nil, Nat.zero_add, Nat.reduceAdd, if_true, List.set_cons_zero, List.set_cons_succ, Option.bind_some, DL.items_tup, DL.items_lst, Bool.false_eq_true, if_false, Bool.not_true, Bool.not_false, Bool.true_and, Bool.and_true, Bool.false_and, DL.dTop, a1]
  have fin : ∀ {X : O} {rest : G}, onO X (fun ρ τ' => τ' = τ ∧ firstOf N rows ends = none) (fun d τ' => τ' = τ ∧ d = optT (firstOf N rows ends)) (fun _ _ => False) → (∀ ρ, rest ρ τ = .rt .non τ) → seqO X rest = .rt (optT (firstOf N rows ends)) τ := fun {X rest} h k => by
    cases X with
    | nx ρ2 τ2 =>
      obtain ⟨rfl, q⟩ := h
      rw [q]
      exact k ρ2
    | rt d τ2 =>
      obtain ⟨rfl, rfl⟩ := h
      rfl
    | _ => exact h.elim
  exact fin hw0 fun ρ => by simp (implicitDefEqProofs := false) only [DL.sSeq, DL.seqO, DL.sIf, DL.sRet, DL.sSet, DL.sExpr, DL.sNo, DL.sNil, DL.sMany, DL.setS, DL.sAsg, DL.bO_pure, DL.dVar, DL.dC, DL.dOp, DL.dCB, DL.dCall, DL.aCons, DL.aNil, DL.dB, DL.bAnd, DL.bOr, DL.bNot, DL.dAnd, DL.dOr, DL.dNot, DL.dNeg, DL.dChain, DL.dIsi, DL.dIsi2, DL.tyD, DL.Ty.isa, DL.dSlice, DL.pNone, DL.pSome, DL.dTup, DL.dOf, DL.fLst, DL.fComp, DL.fItems, DL.wipeS, DL.iSeq, DL.iR1, DL.iR2, DL.iZip, DL.xVal, DL.xNil, DL.dIf, DL.gN, DL.gT, DL.gsN, DL.gsC, DL.aStar, DL.M.pure_bind, DL.M.lift_some, DL.toB_bl, DL.toI_int, DL.fits_map, DL.fits_nil, List.map_cons, List.map_nil, List.replicate, List.cons_append, List.nil_append, Nat.sub_zero, Nat.reduceSub, List.getElem?_cons_zero, List.getElem?_cons_succ, List.length_cons, List.length_nil, Nat.zero_add, Nat.reduceAdd, if_true, List.set_cons_zero, List.set_cons_succ, Option.bind_some, DL.items_tup, DL.items_lst, Bool.false_eq_true, if_false, Bool.not_true, Bool.not_false, Bool.true_and, Bool.and_true, Bool.false_and, DL.dTop]
def orCan : Option (List Nat) → M D
  | some u => M.pure (ns true u)
  | none => M.exc "CanNot"
theorem v_first_taken (o : Ok wd rows) {N : Nat} (hN : rows.length < N) (hf : N ≤ 10000) (hw : wd ≤ 1000) : m_first_taken [mD a b c e rows ends] = orCan (firstOf N rows ends) := by
  have hv := v_first_of (b := b) (c := c) (e := e) (ends := ends) o hN hf hw
  have hv : m_first_of [nss b c rows, ns e ends, .int 0] = _ := hv
  cases q : firstOf N rows ends with
  | some u =>
    rw [q] at hv
    refine runG_rt rfl fun τ => ?_
    have h1 : isND (ns true u) .non = some (.bl false) := rfl
    simp (implicitDefEqProofs := false) only [b_first_taken, DL.sSeq, DL.seqO, DL.sIf, DL.sRet, DL.sSet, DL.sExpr, DL.sNo, DL.sNil, DL.sMany, DL.setS, DL.sAsg, DL.bO_pure, DL.dVar, DL.dC, DL.dOp, DL.dCB, DL.dCall, DL.aCons, DL.aNil, DL.dB, DL.bAnd, DL.bOr, DL.bNot, DL.dAnd, DL.dOr, DL.dNot, DL.dNeg, DL.dChain, DL.dIsi, DL.dIsi2, DL.tyD, DL.Ty.isa, DL.dSlice, DL.pNone, DL.pSome, DL.dTup, DL.dOf, DL.fLst, DL.fComp, DL.fItems, DL.wipeS, DL.iSeq, DL.iR1, DL.iR2, DL.iZip, DL.xVal, DL.xNil, DL.dIf, DL.gN, DL.gT, DL.gsN, DL.gsC, DL.aStar, DL.M.pure_bind, DL.M.lift_some, DL.toB_bl, DL.toI_int, DL.fits_map, DL.fits_nil, List.map_cons, List.map_nil, List.replicate, List.cons_append, List.nil_append, Nat.sub_zero, Nat.reduceSub, List.getElem?_cons_zero, List.getElem?_cons_succ, List.length_cons, List.length_nil, Nat.zero_add, Nat.reduceAdd, if_true, List.set_cons_zero, List.set_cons_succ, Option.bind_some, DL.items_tup, DL.items_lst, Bool.false_eq_true, if_false, Bool.not_true, Bool.not_false, Bool.true_and, Bool.and_true, Bool.false_and, DL.dTop, DL.items_sq, DL.len_sq, List.length_map, DL.ix_sq0, DL.ix_sq1, DL.in_ns, DL.nin_ns, DL.eqD_ni, DL.neD_ni, DL.add_ni, DL.lt_ni, DL.le_ni, DL.tuple_sq, DL.int_bl, DL.rangeD_0, Int.toNat_natCast, DL.comp_n, DL.comp_nt, DL.comp_2, DL.comp_2t, DL.mapMM_pure, DL.filtMM_pure, DL.ifp_and, DL.ifp_or, DL.ifd_and, DL.ifd_or, DL.filtMM_yes, hv, optT, h1]
  | none =>
    rw [q] at hv
    have h1 : isND .non .non = some (.bl true) := rfl
    refine runG_ex rfl fun τ => ⟨[.d (mD a b c e rows ends), .d .non], ?_⟩
    simp (implicitDefEqProofs := false) only [b_first_taken, DL.sSeq, DL.seqO, DL.sIf, DL.sRet, DL.sSet, DL.sExpr, DL.sNo, DL.sNil, DL.sMany, DL.setS, DL.sAsg, DL.bO_pure, DL.dVar, DL.dC, DL.dOp, DL.dCB, DL.dCall, DL.aCons, DL.aNil, DL.dB, DL.bAnd, DL.bOr, DL.bNot, DL.dAnd, DL.dOr, DL.dNot, DL.dNeg, DL.dChain, DL.dIsi, DL.dIsi2, DL.tyD, DL.Ty.isa, DL.dSlice, DL.pNone, DL.pSome, DL.dTup, DL.dOf, DL.fLst, DL.fComp, DL.fItems, DL.wipeS, DL.iSeq, DL.iR1, DL.iR2, DL.iZip, DL.xVal, DL.xNil, DL.dIf, DL.gN, DL.gT, DL.gsN, DL.gsC, DL.aStar, DL.M.pure_bind, DL.M.lift_some, DL.toB_bl, DL.toI_int, DL.fits_map, DL.fits_nil, List.map_cons, List.map_nil, List.replicate, List.cons_append, List.nil_append, Nat.sub_zero, Nat.reduceSub, List.getElem?_cons_zero, List.getElem?_cons_succ, List.length_cons, List.length_nil, Nat.zero_add, Nat.reduceAdd, if_true, List.set_cons_zero, List.set_cons_succ, Option.bind_some, DL.items_tup, DL.items_lst, Bool.false_eq_true, if_false, Bool.not_true, Bool.not_false, Bool.true_and, Bool.and_true, Bool.false_and, DL.dTop, DL.items_sq, DL.len_sq, List.length_map, DL.ix_sq0, DL.ix_sq1, DL.in_ns, DL.nin_ns, DL.eqD_ni, DL.neD_ni, DL.add_ni, DL.lt_ni, DL.le_ni, DL.tuple_sq, DL.int_bl, DL.rangeD_0, Int.toNat_natCast, DL.comp_n, DL.comp_nt, DL.comp_2, DL.comp_2t, DL.mapMM_pure, DL.filtMM_pure, DL.ifp_and, DL.ifp_or, DL.ifd_and, DL.ifd_or, DL.filtMM_yes, hv, optT, h1, DL.sRaise]
end
end K41
end

section
set_option Elab.async false
set_option linter.all false
set_option maxRecDepth 100000
set_option maxHeartbeats 4000000
open PySem PySem.Spec PyProof.Rows L2 DL
namespace K41
/-! ### the law's own helpers -/
/-- the drawing list after n draws -/
def TinOk (n : Nat) (τ : Tin) : Prop := 0 ≤ τ.2.1 ∧ τ.2.1 < 2 ^ 63 ∧ 0 ≤ τ.2.2 ∧ τ.2.2 ≤ (n : Int)
theorem v_take {τ : Tin} {n : Nat} {k : Int} (h : TinOk n τ) (hn : n ≤ 100000) (h0 : 0 < k) (hk : k < 1073741824) : ∃ r τ', m_law_take [.tin, .int k] τ = .ok (.int r) τ' ∧ 0 ≤ r ∧ r < k ∧ TinOk (n + 1) τ' := by
  obtain ⟨x, y, z⟩ := τ
  obtain ⟨t1, t2, t3, t4⟩ := h
  simp only at t1 t2 t3 t4
  by_cases hx : 0 < x
  · refine ⟨x % k, (x / k, y, z), ?_, Int.emod_nonneg _ (by omega), Int.emod_lt_of_pos _ h0, t1, t2, t3, by simp only; omega⟩
    have e1 : modD (.int x) (.int k) = some (.int (x % k)) := modD_int h0
    have e2 : fdivD (.int x) (.int k) = some (.int (x / k)) := fdivD_int h0 hk
    refine runG_at rfl ?_
    simp only [b_law_take, DL.sSeq, DL.seqO, DL.sIf, DL.sRet, DL.sSet, DL.sExpr, DL.sNo, DL.sNil, DL.sMany, DL.setS, DL.sAsg, DL.bO_pure, DL.dVar, DL.dC, DL.dOp, DL.dCB, DL.dCall, DL.aCons, DL.aNil, DL.dB, DL.bAnd, DL.bOr, DL.bNot, DL.dAnd, DL.dOr, DL.dNot, DL.dNeg, DL.dChain, DL.dIsi, DL.dIsi2, DL.tyD, DL.Ty.isa, DL.dSlice, DL.pNone, DL.pSome, DL.dTup, DL.dOf, DL.fLst, DL.fComp, DL.fItems, DL.wipeS, DL.iSeq, DL.iR1, DL.iR2, DL.iZip, DL.itemsD, DL.xVal, DL.xNil, DL.dIf, DL.gN, DL.gT, DL.gsN, DL.gsC, DL.aStar, DL.M.pure_bind, DL.M.lift_some, DL.toB_bl, DL.toI_int, DL.ltD_int, DL.leD_int, DL.gtD_int, DL.geD_int, DL.subD_int, DL.addD_int, DL.negD_int, DL.maxD_int, DL.eqD_int, DL.neD_int, DL.eqD_tN, DL.neD_tN, DL.neD_tN0, DL.inD_tN, DL.slD_tN, DL.lenD_tN, DL.fits_map, DL.fits_nil, List.map_cons, List.map_nil, List.replicate, List.cons_append, List.nil_append, Nat.sub_zero, Nat.reduceSub, List.getElem?_cons_zero, List.getElem?_cons_succ, List.length_cons, List.length_nil, Nat.zero_add, Nat.reduceAdd, if_true, List.set_cons_zero, List.set_cons_succ, Option.bind_some, M.bind_assoc, bO_tin, sTin, isTin, tinB, tinAt, tinSet, hx, decide_true, intD_int, e1, e2]
  · have e1 : ∀ i, modD (.int i) (.int k) = some (.int (i % k)) := fun i => modD_int h0
    have m1 : ∀ i, modD (.int i) (.int 2147483647) = some (.int (i % 2147483647)) := fun i => modD_int (by decide)
    have m2 : ∀ i, modD (.int i) (.int 40009) = some (.int (i % 40009)) := fun i => modD_int (by decide)
    have m3 : ∀ i, modD (.int i) (.int 2147483629) = some (.int (i % 2147483629)) := fun i => modD_int (by decide)
    have m4 : ∀ i, modD (.int i) (.int 2147483587) = some (.int (i % 2147483587)) := fun i => modD_int (by decide)
    have d1 : ∀ i, fdivD (.int i) (.int 1000003) = some (.int (i / 1000003)) := fun i => fdivD_int (by decide) (by decide)
    have d2 : ∀ i, fdivD (.int i) (.int 64) = some (.int (i / 64)) := fun i => fdivD_int (by decide) (by decide)
    have u1 : ∀ i, mulD (.int 48271) (.int i) = some (.int (48271 * i)) := fun i => mulD_int (.inl rfl)
    have u2 : ∀ i, mulD (.int i) (.int 48271) = some (.int (i * 48271)) := fun i => mulD_int (.inr rfl)
    have u3 : ∀ i, mulD (.int i) (.int (39373 + (z + 1))) = some (.int (i * (39373 + (z + 1)))) := fun i => mulD_int (.inr (small64_of (by omega) (by omega)))
    have u4 : ∀ i j, mulD (.int i) (.int (j % 40009 + 7)) = some (.int (i * (j % 40009 + 7))) := fun i j => mulD_int (.inr (small64_of (by have := Int.emod_nonneg j (show (40009 : Int) ≠ 0 by decide); omega) (by have := Int.emod_lt_of_pos j (show (0 : Int) < 40009 by decide); omega)))
    obtain ⟨v, hv⟩ : ∃ v, m_law_take [.tin, .int k] (x, y, z) = .ok (.int (v % k)) (x, y, z + 1) := by
      refine ⟨?v, runG_at rfl ?h⟩
      case h =>
        simp only [b_law_take, DL.sSeq, DL.seqO, DL.sIf, DL.sRet, DL.sSet, DL.sExpr, DL.sNo, DL.sNil, DL.sMany, DL.setS, DL.sAsg, DL.bO_pure, DL.dVar, DL.dC, DL.dOp, DL.dCB, DL.dCall, DL.aCons, DL.aNil, DL.dB, DL.bAnd, DL.bOr, DL.bNot, DL.dAnd, DL.dOr, DL.dNot, DL.dNeg, DL.dChain, DL.dIsi, DL.dIsi2, DL.tyD, DL.Ty.isa, DL.dSlice, DL.pNone, DL.pSome, DL.dTup, DL.dOf, DL.fLst, DL.fComp, DL.fItems, DL.wipeS, DL.iSeq, DL.iR1, DL.iR2, DL.iZip, DL.itemsD, DL.xVal, DL.xNil, DL.dIf, DL.gN, DL.gT, DL.gsN, DL.gsC, DL.aStar, DL.M.pure_bind, DL.M.lift_some, DL.toB_bl, DL.toI_int, DL.ltD_int, DL.leD_int, DL.gtD_int, DL.geD_int, DL.subD_int, DL.addD_int, DL.negD_int, DL.maxD_int, DL.eqD_int, DL.neD_int, DL.eqD_tN, DL.neD_tN, DL.neD_tN0, DL.inD_tN, DL.slD_tN, DL.lenD_tN, DL.fits_map, DL.fits_nil, List.map_cons, List.map_nil, List.replicate, List.cons_append, List.nil_append, Nat.sub_zero, Nat.reduceSub, List.getElem?_cons_zero, List.getElem?_cons_succ, List.length_cons, List.length_nil, Nat.zero_add, Nat.reduceAdd, if_true, List.set_cons_zero, List.set_cons_succ, Option.bind_some, M.bind_assoc, bO_tin, sTin, isTin, tinB, tinAt, tinSet, hx, decide_false, Bool.false_eq_true, if_false, intD_int, e1, m1, m2, m3, m4, d1, d2, u1, u2, u3, u4]
        rfl
    exact ⟨_, _, hv, Int.emod_nonneg _ (by omega), Int.emod_lt_of_pos _ h0, t1, t2, by simp only; omega, by simp only; omega⟩
/-! ### the helpers of a law: the drawing list -/
theorem eqD_bl (a b : Bool) : eqD (.bl a) (.bl b) = some (.bl (a == b)) := by cases a <;> cases b <;> rfl
theorem neD_bl (a b : Bool) : neD (.bl a) (.bl b) = some (.bl (!(a == b))) := by cases a <;> cases b <;> rfl
theorem pairD_eq (n : Nat) (xs : List Int) : DL.pairD (numD n) (xs.map .int) = ((List.range n).zip xs).map fun p : Nat × Int => D.tup [.int (p.1 : Nat), .int p.2] := by
  unfold DL.pairD numD
  rw [List.zip_map, List.map_map]
  rfl
theorem v_cells_loop {a b : D} {τ : Tin} : ∀ (ps : List (Nat × Int)) (z : Int) (s3 s4 s5 : S), (∀ p ∈ ps, p.1 < 1000) → ∃ z' t3 t4 t5,
    loopO (gT 2 (gsC (gN 3) (gsC (gN 4) gsN))) (sSeq (sSet 5 (dOp modD (dCB DL.intD (aCons (dVar 3) aNil)) (dVar 1)))
    (ownAt 2 (sSetI 2 (dVar 5) (dOp addD (dOp ixD (dTop 2) (dVar 5)) (dOp mulD (dVar 4) (dOp addD (dVar 3) (dC (.int 2)))))))) (ps.map fun p : Nat × Int => D.tup [.int (p.1 : Nat), .int p.2]) [.d a, .d (.int 1), .own [.int z], s3, s4, s5] τ = .nx [.d a, .d (.int 1), .own [.int z'], t3, t4, t5] τ
  | [], z, s3, s4, s5, _ => ⟨z, s3, s4, s5, rfl⟩
  | (k, c) :: ps, z, s3, s4, s5, h => by
    have hk := h (k, c) List.mem_cons_self
    have hk : k < 1000 := hk
    obtain ⟨z', t3, t4, t5, e⟩ := v_cells_loop (a := a) (b := b) (τ := τ) ps (z + c * ((k : Int) + 2)) (.d (.int k)) (.d (.int c)) (.d (.int 0)) fun p hp => h p (List.mem_cons_of_mem _ hp)
    refine ⟨z', t3, t4, t5, ?_⟩
    rw [← e]
    have e1 : modD (.int (k : Int)) (.int 1) = some (.int 0) := by rw [modD_int (by decide), Int.emod_one]
    have e2 : mulD (.int c) (.int ((k : Int) + 2)) = some (.int (c * ((k : Int) + 2))) := mulD_int (.inr (small64_of (by omega) (by omega)))
    have e3 : ixD (.lst [.int z]) (.int 0) = some (.int z) := rfl
    rw [List.map_cons]
    show turnO ((sSeq _ _) [.d a, .d (.int 1), .own [.int z], .d (.int k), .d (.int c), s5] τ) _ = _
    simp (implicitDefEqProofs := false) only [DL.sSeq, DL.seqO, DL.sIf, DL.sRet, DL.sSet, DL.sExpr, DL.sNo, DL.sNil, DL.sMany, DL.setS, DL.sAsg, DL.bO_pure, DL.dVar, DL.dC, DL.dOp, DL.dCB, DL.dCall, DL.aCons, DL.aNil, DL.dB, DL.bAnd, DL.bOr, DL.bNot, DL.dAnd, DL.dOr, DL.dNot, DL.dNeg, DL.dChain, DL.dIsi, DL.dIsi2, DL.tyD, DL.Ty.isa, DL.dSlice, DL.pNone, DL.pSome, DL.dTup, DL.dOf, DL.fLst, DL.fComp, DL.fItems, DL.wipeS, DL.iSeq, DL.iR1, DL.iR2, DL.iZip, DL.itemsD, DL.xVal, DL.xNil, DL.dIf, DL.gN, DL.gT, DL.gsN, DL.gsC, DL.aStar, DL.M.pure_bind, DL.M.lift_some, DL.toB_bl, DL.toI_int, DL.ltD_int, DL.leD_int, DL.gtD_int, DL.geD_int, DL.subD_int, DL.addD_int, DL.negD_int, DL.maxD_int, DL.eqD_int, DL.neD_int, DL.eqD_tN, DL.neD_tN, DL.neD_tN0, DL.inD_tN, DL.slD_tN, DL.lenD_tN, DL.fits_map, DL.fits_nil, List.map_cons, List.map_nil, List.replicate, List.cons_append, List.nil_append, Nat.sub_zero, Nat.reduceSub, List.getElem?_cons_zero, List.getElem?_cons_succ, List.length_cons, List.length_nil, Nat.zero_add, Nat.reduceAdd, if_true, List.set_cons_zero, List.set_cons_succ, Option.bind_some, intD_int, e1, ownAt, sSetI, dTop, e2, e3, upOwn, ixN]
    rfl
theorem v_cells {ns : List Int} (τ : Tin) (hl : ns.length ≤ 63) : ∃ z, m_law_cells [.scr ns, .int 1] τ = .ok (.lst [.int z]) τ := by
  have h1 : slD none (some 1) (.scr ns) = some (.lst ((ns.take 1).map .int)) := by
    show some (D.lst ((cutL ns none (some 1)).map .int)) = _
    rw [cutL_hi ns (by decide)]
    rfl
  have h2 : ∃ xs : List Int, slD (some 1) (some 63) (.scr ns) = some (.lst (xs.map .int)) ∧ xs.length ≤ 63 := by
    refine ⟨_, rfl, ?_⟩
    unfold cutL
    rw [List.length_take, List.length_drop]
    omega
  obtain ⟨xs, h2, h3⟩ := h2
  obtain ⟨z0, h4⟩ : ∃ z0, fOr (fItems (dSlice (dVar 0) pNone (pSome (dVar 1)))) (fLst (aCons (dC (.int 0)) aNil)) [.d (.scr ns), .d (.int 1), .un, .un, .un, .un] = M.pure [.int z0] := by
    cases ns with
    | nil =>
      have h1 : slD none (some 1) (.scr []) = some (.lst []) := rfl
      have hf : fits [.int 0] = true := rfl
      refine ⟨0, ?_⟩
      simp (implicitDefEqProofs := false) only [fOr, DL.sSeq, DL.seqO, DL.sIf, DL.sRet, DL.sSet, DL.sExpr, DL.sNo, DL.sNil, DL.sMany, DL.setS, DL.sAsg, DL.bO_pure, DL.dVar, DL.dC, DL.dOp, DL.dCB, DL.dCall, DL.aCons, DL.aNil, DL.dB, DL.bAnd, DL.bOr, DL.bNot, DL.dAnd, DL.dOr, DL.dNot, DL.dNeg, DL.dChain, DL.dIsi, DL.dIsi2, DL.tyD, DL.Ty.isa, DL.dSlice, DL.pNone, DL.pSome, DL.dTup, DL.dOf, DL.fLst, DL.fComp, DL.fItems, DL.wipeS, DL.iSeq, DL.iR1, DL.iR2, DL.iZip, DL.itemsD, DL.xVal, DL.xNil, DL.dIf, DL.gN, DL.gT, DL.gsN, DL.gsC, DL.aStar, DL.M.pure_bind, DL.M.lift_some, DL.toB_bl, DL.toI_int, DL.ltD_int, DL.leD_int, DL.gtD_int, DL.geD_int, DL.subD_int, DL.addD_int, DL.negD_int, DL.maxD_int, DL.eqD_int, DL.neD_int, DL.eqD_tN, DL.neD_tN, DL.neD_tN0, DL.inD_tN, DL.slD_tN, DL.lenD_tN, DL.fits_map, DL.fits_nil, List.map_cons, List.map_nil, List.replicate, List.cons_append, List.nil_append, Nat.sub_zero, Nat.reduceSub, List.getElem?_cons_zero, List.getElem?_cons_succ, List.length_cons, List.length_nil, Nat.zero_add, Nat.reduceAdd, if_true, List.set_cons_zero, List.set_cons_succ, Option.bind_some, h1, hf, List.isEmpty_nil]
    | cons n ns =>
      have h1 : slD none (some 1) (.scr (n :: ns)) = some (.lst [.int n]) := by rw [h1]; rfl
      refine ⟨n, ?_⟩
      simp (implicitDefEqProofs := false) only [fOr, DL.sSeq, DL.seqO, DL.sIf, DL.sRet, DL.sSet, DL.sExpr, DL.sNo, DL.sNil, DL.sMany, DL.setS, DL.sAsg, DL.bO_pure, DL.dVar, DL.dC, DL.dOp, DL.dCB, DL.dCall, DL.aCons, DL.aNil, DL.dB, DL.bAnd, DL.bOr, DL.bNot, DL.dAnd, DL.dOr, DL.dNot, DL.dNeg, DL.dChain, DL.dIsi, DL.dIsi2, DL.tyD, DL.Ty.isa, DL.dSlice, DL.pNone, DL.pSome, DL.dTup, DL.dOf, DL.fLst, DL.fComp, DL.fItems, DL.wipeS, DL.iSeq, DL.iR1, DL.iR2, DL.iZip, DL.itemsD, DL.xVal, DL.xNil, DL.dIf, DL.gN, DL.gT, DL.gsN, DL.gsC, DL.aStar, DL.M.pure_bind, DL.M.lift_some, DL.toB_bl, DL.toI_int, DL.ltD_int, DL.leD_int, DL.gtD_int, DL.geD_int, DL.subD_int, DL.addD_int, DL.negD_int, DL.maxD_int, DL.eqD_int, DL.neD_int, DL.eqD_tN, DL.neD_tN, DL.neD_tN0, DL.inD_tN, DL.slD_tN, DL.lenD_tN, DL.fits_map, DL.fits_nil, List.map_cons, List.map_nil, List.replicate, List.cons_append, List.nil_append, Nat.sub_zero, Nat.reduceSub, List.getElem?_cons_zero, List.getElem?_cons_succ, List.length_cons, List.length_nil, Nat.zero_add, Nat.reduceAdd, if_true, List.set_cons_zero, List.set_cons_succ, Option.bind_some, h1, List.isEmpty_cons, Bool.false_eq_true, if_false]
  obtain ⟨z', t3, t4, t5, e⟩ := v_cells_loop (a := .scr ns) (b := .int 1) (τ := τ) ((List.range xs.length).zip xs) z0 .un .un .un fun p hp => by
    have := List.mem_range.mp (List.of_mem_zip hp).1
    omega
  have he : DL.iEnum (dSlice (dVar 0) (pSome (dVar 1)) (pSome (dC (.int 63)))) [.d (.scr ns), .d (.int 1), .own [.int z0], .un, .un, .un] = M.pure (((List.range xs.length).zip xs).map fun p : Nat × Int => D.tup [.int (p.1 : Nat), .int p.2]) := by
    unfold DL.iEnum
    simp (implicitDefEqProofs := false) only [DL.sSeq, DL.seqO, DL.sIf, DL.sRet, DL.sSet, DL.sExpr, DL.sNo, DL.sNil, DL.sMany, DL.setS, DL.sAsg, DL.bO_pure, DL.dVar, DL.dC, DL.dOp, DL.dCB, DL.dCall, DL.aCons, DL.aNil, DL.dB, DL.bAnd, DL.bOr, DL.bNot, DL.dAnd, DL.dOr, DL.dNot, DL.dNeg, DL.dChain, DL.dIsi, DL.dIsi2, DL.tyD, DL.Ty.isa, DL.dSlice, DL.pNone, DL.pSome, DL.dTup, DL.dOf, DL.fLst, DL.fComp, DL.fItems, DL.wipeS, DL.iSeq, DL.iR1, DL.iR2, DL.iZip, DL.itemsD, DL.xVal, DL.xNil, DL.dIf, DL.gN, DL.gT, DL.gsN, DL.gsC, DL.aStar, DL.M.pure_bind, DL.M.lift_some, DL.toB_bl, DL.toI_int, DL.ltD_int, DL.leD_int, DL.gtD_int, DL.geD_int, DL.subD_int, DL.addD_int, DL.negD_int, DL.maxD_int, DL.eqD_int, DL.neD_int, DL.eqD_tN, DL.neD_tN, DL.neD_tN0, DL.inD_tN, DL.slD_tN, DL.lenD_tN, DL.fits_map, DL.fits_nil, List.map_cons, List.map_nil, List.replicate, List.cons_append, List.nil_append, Nat.sub_zero, Nat.reduceSub, List.getElem?_cons_zero, List.getElem?_cons_succ, List.length_cons, List.length_nil, Nat.zero_add, Nat.reduceAdd, if_true, List.set_cons_zero, List.set_cons_succ, Option.bind_some, h2]
    rw [← pairD_eq]
    show M.pure (DL.pairD (numD (xs.map D.int).length) _) = _
    rw [List.length_map]
  refine ⟨z', runG_at rfl ?_⟩
  simp (implicitDefEqProofs := false) only [b_law_cells, sOwn, sFor, DL.sSeq, DL.seqO, DL.sIf, DL.sRet, DL.sSet, DL.sExpr, DL.sNo, DL.sNil, DL.sMany, DL.setS, DL.sAsg, DL.bO_pure, DL.dVar, DL.dC, DL.dOp, DL.dCB, DL.dCall, DL.aCons, DL.aNil, DL.dB, DL.bAnd, DL.bOr, DL.bNot, DL.dAnd, DL.dOr, DL.dNot, DL.dNeg, DL.dChain, DL.dIsi, DL.dIsi2, DL.tyD, DL.Ty.isa, DL.dSlice, DL.pNone, DL.pSome, DL.dTup, DL.dOf, DL.fLst, DL.fComp, DL.fItems, DL.wipeS, DL.iSeq, DL.iR1, DL.iR2, DL.iZip, DL.itemsD, DL.xVal, DL.xNil, DL.dIf, DL.gN, DL.gT, DL.gsN, DL.gsC, DL.aStar, DL.M.pure_bind, DL.M.lift_some, DL.toB_bl, DL.toI_int, DL.ltD_int, DL.leD_int, DL.gtD_int, DL.geD_int, DL.subD_int, DL.addD_int, DL.negD_int, DL.maxD_int, DL.eqD_int, DL.neD_int, DL.eqD_tN, DL.neD_tN, DL.neD_tN0, DL.inD_tN, DL.slD_tN, DL.lenD_tN, DL.fits_map, DL.fits_nil, List.map_cons, List.map_nil, List.replicate, List.cons_append, List.nil_append, Nat.sub_zero, Nat.reduceSub, List.getElem?_cons_zero, List.getElem?_cons_succ, List.length_cons, List.length_nil, Nat.zero_add, Nat.reduceAdd, if_true, List.set_cons_zero, List.set_cons_succ, Option.bind_some, h4, he, e, sFrz, frz]
theorem v_box (z : Int) : ∃ x y, m_law_box [.lst [.int z], .int 0] = M.pure (.lst [.int x, .int y, .int 0]) ∧ 0 ≤ y ∧ y < 2 ^ 63 := by
  refine ⟨(if z < 0 then -z else z) * (if decide (1000000000000000000 ≤ (if z < 0 then -z else z)) = true then 1 else 0), z % 2305843009213693951 + 0 + 2632284, runG_rt rfl fun τ => ?_, ?_, ?_⟩
  · have e0 : lenD [.lst [.int z]] = some (.int 1) := rfl
    have e1 : ixD (.lst [.int z]) (.int 0) = some (.int z) := rfl
    have e2 : powD (.int 10) (.int 18) = some (.int 1000000000000000000) := rfl
    have e3 : absD [.int z] = some (.int (if z < 0 then -z else z)) := rfl
    have e4 : ∀ b : Bool, DL.intD [.bl b] = some (.int (if b then 1 else 0)) := fun _ => rfl
    have e5 : ∀ (i : Int) (b : Bool), mulD (.int i) (.int (if b then 1 else 0)) = some (.int (i * (if b then 1 else 0))) := fun i b => mulD_int (.inr (by cases b <;> rfl))
    have e6 : modD (.int z) (.int 2305843009213693951) = some (.int (z % 2305843009213693951)) := modD_int (by decide)
    have e7 : mulD (.int 39373) (.int 0) = some (.int 0) := rfl
    have hf : ∀ a b c : D, fits [a, b, c] = true := fun _ _ _ => rfl
    simp (implicitDefEqProofs := false) only [b_law_box, DL.sSeq, DL.seqO, DL.sIf, DL.sRet, DL.sSet, DL.sExpr, DL.sNo, DL.sNil, DL.sMany, DL.setS, DL.sAsg, DL.bO_pure, DL.dVar, DL.dC, DL.dOp, DL.dCB, DL.dCall, DL.aCons, DL.aNil, DL.dB, DL.bAnd, DL.bOr, DL.bNot, DL.dAnd, DL.dOr, DL.dNot, DL.dNeg, DL.dChain, DL.dIsi, DL.dIsi2, DL.tyD, DL.Ty.isa, DL.dSlice, DL.pNone, DL.pSome, DL.dTup, DL.dOf, DL.fLst, DL.fComp, DL.fItems, DL.wipeS, DL.iSeq, DL.iR1, DL.iR2, DL.iZip, DL.itemsD, DL.xVal, DL.xNil, DL.dIf, DL.gN, DL.gT, DL.gsN, DL.gsC, DL.aStar, DL.M.pure_bind, DL.M.lift_some, DL.toB_bl, DL.toI_int, DL.ltD_int, DL.leD_int, DL.gtD_int, DL.geD_int, DL.subD_int, DL.addD_int, DL.negD_int, DL.maxD_int, DL.eqD_int, DL.neD_int, DL.eqD_tN, DL.neD_tN, DL.neD_tN0, DL.inD_tN, DL.slD_tN, DL.lenD_tN, DL.fits_map, DL.fits_nil, List.map_cons, List.map_nil, List.replicate, List.cons_append, List.nil_append, Nat.sub_zero, Nat.reduceSub, List.getElem?_cons_zero, List.getElem?_cons_succ, List.length_cons, List.length_nil, Nat.zero_add, Nat.reduceAdd, if_true, List.set_cons_zero, List.set_cons_succ, Option.bind_some, e0, e1, e2, e3, e4, e5, e6, e7, intD_int, hf, show decide ((0 : Int) < 1) = true from rfl]
  · have := Int.emod_nonneg z (show (2305843009213693951 : Int) ≠ 0 by decide)
    omega
  · have := Int.emod_lt_of_pos z (show (0 : Int) < 2305843009213693951 by decide)
    omega
/-! ### the helpers of a law: comparing -/
theorem compM_gen {g : D → DL.Env → Option DL.Env} {f : DL.Env → M D} {h : D → D} {ρ : DL.Env} : ∀ ds : List D, (∀ d ∈ ds, ∃ ρ1, g d ρ = some ρ1 ∧ f ρ1 = M.pure (h d)) → compM g bYes f ds ρ = M.pure (ds.map h)
  | [], _ => rfl
  | d :: ds, k => by
    obtain ⟨ρ1, h1, h2⟩ := k d List.mem_cons_self
    have ih := compM_gen ds fun x hx => k x (List.mem_cons_of_mem _ hx)
    funext τ
    have ih := congrFun ih τ
    have h2 := congrFun h2 τ
    rw [compM, h1]
    show M.bind (calm (bYes ρ1)) (fun c => if c = true then M.bind (calm (f ρ1)) fun x => M.bind (compM g bYes f ds ρ) fun xs => M.pure (x :: xs) else compM g bYes f ds ρ) τ = _
    have e : calm (f ρ1) τ = .ok (h d) τ := calm_ok h2
    show M.bind (calm (f ρ1)) (fun x => M.bind (compM g bYes f ds ρ) fun xs => M.pure (x :: xs)) τ = _
    rw [M.bind_ok e, M.bind_ok ih]
    rfl
/-- data that _law_same compares, at most n deep -/
def okS : Nat → D → Prop
  | 0, _ => False
  | n + 1, d => match d with
    | .non => True
    | .bl _ => True
    | .int _ => True
    | .tup xs => xs.length ≤ 1000 ∧ ∀ x ∈ xs, okS n x
    | .lst xs => xs.length ≤ 1000 ∧ ∀ x ∈ xs, okS n x
    | _ => False
theorem okS_int (n : Nat) (i : Int) : okS (n + 1) (.int i) := trivial
theorem okS_bl (n : Nat) (i : Bool) : okS (n + 1) (.bl i) := trivial
theorem okS_non (n : Nat) : okS (n + 1) .non := trivial
theorem okS_tN (n : Nat) {xs : List Int} (h : xs.length ≤ 1000) : okS (n + 2) (tN xs) := ⟨by rw [List.length_map]; exact h, fun x hx => by
  obtain ⟨i, _, rfl⟩ := List.mem_map.mp hx
  trivial⟩
theorem okS_list {n : Nat} {xs : List D} (hl : xs.length ≤ 1000) (h : ∀ x ∈ xs, okS n x) : okS (n + 1) (.lst xs) := ⟨hl, h⟩
theorem okS_tup {n : Nat} {xs : List D} (hl : xs.length ≤ 1000) (h : ∀ x ∈ xs, okS n x) : okS (n + 1) (.tup xs) := ⟨hl, h⟩
theorem all_true {α : Type} (xs : List α) : allD [.lst (xs.map fun _ => D.bl true)] = some (.bl true) := by
  have := allD_map (fun _ : α => true) xs
  rw [this]
  congr 2
  induction xs with
  | nil => rfl
  | cons x xs ih => rw [List.all_cons, ih (allD_map _ _)]; rfl
theorem pairD_self (xs : List D) : DL.pairD xs xs = xs.map fun x => .tup [x, x] := by
  unfold DL.pairD
  rw [show xs.zip xs = xs.map fun x => (x, x) from by induction xs with | nil => rfl | cons x xs ih => rw [List.zip_cons_cons, ih]; rfl, List.map_map]
  rfl
theorem v_same : ∀ (n : Nat) (d : D), okS n d → m_law_same n [d, d] = M.pure (.bl true)
  | 0, _, h => h.elim
  | n + 1, .non, _ => by
    refine runG_rt rfl fun τ => ?_
    have e1 : isND .non .non = some (.bl true) := rfl
    have e2 : eqD .non .non = some (.bl true) := rfl
    simp [b_law_same, DL.sSeq, DL.seqO, DL.sIf, DL.sRet, DL.sSet, DL.sExpr, DL.sNo, DL.sNil, DL.sMany, DL.setS, DL.sAsg, DL.bO_pure, DL.dVar, DL.dC, DL.dOp, DL.dCB, DL.dCall, DL.aCons, DL.aNil, DL.dB, DL.bAnd, DL.bOr, DL.bNot, DL.dAnd, DL.dOr, DL.dNot, DL.dNeg, DL.dChain, DL.dIsi, DL.dIsi2, DL.tyD, DL.Ty.isa, DL.dSlice, DL.pNone, DL.pSome, DL.dTup, DL.dOf, DL.fLst, DL.fComp, DL.fItems, DL.wipeS, DL.iSeq, DL.iR1, DL.iR2, DL.iZip, DL.itemsD, DL.xVal, DL.xNil, DL.dIf, DL.gN, DL.gT, DL.gsN, DL.gsC, DL.aStar, DL.M.pure_bind, DL.M.lift_some, DL.toB_bl, DL.toI_int, DL.ltD_int, DL.leD_int, DL.gtD_int, DL.geD_int, DL.subD_int, DL.addD_int, DL.negD_int, DL.maxD_int, DL.eqD_int, DL.neD_int, DL.eqD_tN, DL.neD_tN, DL.neD_tN0, DL.inD_tN, DL.slD_tN, DL.lenD_tN, DL.fits_map, DL.fits_nil, e1, e2, eqD_bl]
  | n + 1, .bl b, _ => by
    refine runG_rt rfl fun τ => ?_
    have e1 : isND (.bl b) .non = some (.bl false) := rfl
    simp [b_law_same, DL.sSeq, DL.seqO, DL.sIf, DL.sRet, DL.sSet, DL.sExpr, DL.sNo, DL.sNil, DL.sMany, DL.setS, DL.sAsg, DL.bO_pure, DL.dVar, DL.dC, DL.dOp, DL.dCB, DL.dCall, DL.aCons, DL.aNil, DL.dB, DL.bAnd, DL.bOr, DL.bNot, DL.dAnd, DL.dOr, DL.dNot, DL.dNeg, DL.dChain, DL.dIsi, DL.dIsi2, DL.tyD, DL.Ty.isa, DL.dSlice, DL.pNone, DL.pSome, DL.dTup, DL.dOf, DL.fLst, DL.fComp, DL.fItems, DL.wipeS, DL.iSeq, DL.iR1, DL.iR2, DL.iZip, DL.itemsD, DL.xVal, DL.xNil, DL.dIf, DL.gN, DL.gT, DL.gsN, DL.gsC, DL.aStar, DL.M.pure_bind, DL.M.lift_some, DL.toB_bl, DL.toI_int, DL.ltD_int, DL.leD_int, DL.gtD_int, DL.geD_int, DL.subD_int, DL.addD_int, DL.negD_int, DL.maxD_int, DL.eqD_int, DL.neD_int, DL.eqD_tN, DL.neD_tN, DL.neD_tN0, DL.inD_tN, DL.slD_tN, DL.lenD_tN, DL.fits_map, DL.fits_nil, e1, eqD_bl]
  | n + 1, .int i, _ => by
    refine runG_rt rfl fun τ => ?_
    have e1 : isND (.int i) .non = some (.bl false) := rfl
    simp [b_law_same, DL.sSeq, DL.seqO, DL.sIf, DL.sRet, DL.sSet, DL.sExpr, DL.sNo, DL.sNil, DL.sMany, DL.setS, DL.sAsg, DL.bO_pure, DL.dVar, DL.dC, DL.dOp, DL.dCB, DL.dCall, DL.aCons, DL.aNil, DL.dB, DL.bAnd, DL.bOr, DL.bNot, DL.dAnd, DL.dOr, DL.dNot, DL.dNeg, DL.dChain, DL.dIsi, DL.dIsi2, DL.tyD, DL.Ty.isa, DL.dSlice, DL.pNone, DL.pSome, DL.dTup, DL.dOf, DL.fLst, DL.fComp, DL.fItems, DL.wipeS, DL.iSeq, DL.iR1, DL.iR2, DL.iZip, DL.itemsD, DL.xVal, DL.xNil, DL.dIf, DL.gN, DL.gT, DL.gsN, DL.gsC, DL.aStar, DL.M.pure_bind, DL.M.lift_some, DL.toB_bl, DL.toI_int, DL.ltD_int, DL.leD_int, DL.gtD_int, DL.geD_int, DL.subD_int, DL.addD_int, DL.negD_int, DL.maxD_int, DL.eqD_int, DL.neD_int, DL.eqD_tN, DL.neD_tN, DL.neD_tN0, DL.inD_tN, DL.slD_tN, DL.lenD_tN, DL.fits_map, DL.fits_nil, e1, eqD_bl]
  | n + 1, .tup xs, h => by
    obtain ⟨h1, h2⟩ := h
    refine runG_rt rfl fun τ => ?_
    have e1 : lenD [.tup xs] = some (.int (xs.length : Nat)) := rfl
    have hz : zipAny (.tup xs) (.tup xs) = some (xs.map fun x => .tup [x, x]) := by rw [← pairD_self]; rfl
    have hc : compM (gT 2 (gsC (gN 2) (gsC (gN 3) gsN))) bYes (dCall 2 (m_law_same n) (aCons (dVar 2) (aCons (dVar 3) aNil))) (xs.map fun x => .tup [x, x]) [.d (.tup xs), .d (.tup xs), .un, .un] = M.pure ((xs.map fun x => D.tup [x, x]).map fun _ => .bl true) := compM_gen _ fun d hd => by
      obtain ⟨x, hx, rfl⟩ := List.mem_map.mp hd
      have := v_same n x (h2 x hx)
      exact ⟨_, rfl, by simp [DL.sSeq, DL.seqO, DL.sIf, DL.sRet, DL.sSet, DL.sExpr, DL.sNo, DL.sNil, DL.sMany, DL.setS, DL.sAsg, DL.bO_pure, DL.dVar, DL.dC, DL.dOp, DL.dCB, DL.dCall, DL.aCons, DL.aNil, DL.dB, DL.bAnd, DL.bOr, DL.bNot, DL.dAnd, DL.dOr, DL.dNot, DL.dNeg, DL.dChain, DL.dIsi, DL.dIsi2, DL.tyD, DL.Ty.isa, DL.dSlice, DL.pNone, DL.pSome, DL.dTup, DL.dOf, DL.fLst, DL.fComp, DL.fItems, DL.wipeS, DL.iSeq, DL.iR1, DL.iR2, DL.iZip, DL.itemsD, DL.xVal, DL.xNil, DL.dIf, DL.gN, DL.gT, DL.gsN, DL.gsC, DL.aStar, DL.M.pure_bind, DL.M.lift_some, DL.toB_bl, DL.toI_int, DL.ltD_int, DL.leD_int, DL.gtD_int, DL.geD_int, DL.subD_int, DL.addD_int, DL.negD_int, DL.maxD_int, DL.eqD_int, DL.neD_int, DL.eqD_tN, DL.neD_tN, DL.neD_tN0, DL.inD_tN, DL.slD_tN, DL.lenD_tN, DL.fits_map, DL.fits_nil, this]⟩
    have hf : fits (xs.map fun x => D.tup [x, x]) = true := fits_map (Nat.le_trans h1 (by decide))
    have ha := all_true (xs.map fun x => D.tup [x, x])
    simp (implicitDefEqProofs := false) only [b_law_same, DL.sSeq, DL.seqO, DL.sIf, DL.sRet, DL.sSet, DL.sExpr, DL.sNo, DL.sNil, DL.sMany, DL.setS, DL.sAsg, DL.bO_pure, DL.dVar, DL.dC, DL.dOp, DL.dCB, DL.dCall, DL.aCons, DL.aNil, DL.dB, DL.bAnd, DL.bOr, DL.bNot, DL.dAnd, DL.dOr, DL.dNot, DL.dNeg, DL.dChain, DL.dIsi, DL.dIsi2, DL.tyD, DL.Ty.isa, DL.dSlice, DL.pNone, DL.pSome, DL.dTup, DL.dOf, DL.fLst, DL.fComp, DL.fItems, DL.wipeS, DL.iSeq, DL.iR1, DL.iR2, DL.iZip, DL.itemsD, DL.xVal, DL.xNil, DL.dIf, DL.gN, DL.gT, DL.gsN, DL.gsC, DL.aStar, DL.M.pure_bind, DL.M.lift_some, DL.toB_bl, DL.toI_int, DL.ltD_int, DL.leD_int, DL.gtD_int, DL.geD_int, DL.subD_int, DL.addD_int, DL.negD_int, DL.maxD_int, DL.eqD_int, DL.neD_int, DL.eqD_tN, DL.neD_tN, DL.neD_tN0, DL.inD_tN, DL.slD_tN, DL.lenD_tN, DL.fits_map, DL.fits_nil, List.map_cons, List.map_nil, List.replicate, List.cons_append, List.nil_append, Nat.sub_zero, Nat.reduceSub, List.getElem?_cons_zero, List.getElem?_cons_succ, List.length_cons, List.length_nil, Nat.zero_add, Nat.reduceAdd, if_true, List.set_cons_zero, List.set_cons_succ, Option.bind_some, DL.iZipA, e1, neD_bl, hz, hc, hf, ha, Bool.or_true, Bool.or_false, Bool.true_or, beq_self_eq_true, Bool.not_true, Bool.false_eq_true, if_false, decide_true]
  | n + 1, .lst xs, h => by
    obtain ⟨h1, h2⟩ := h
    refine runG_rt rfl fun τ => ?_
    have e1 : lenD [.lst xs] = some (.int (xs.length : Nat)) := rfl
    have hz : zipAny (.lst xs) (.lst xs) = some (xs.map fun x => .tup [x, x]) := by rw [← pairD_self]; rfl
    have hc : compM (gT 2 (gsC (gN 2) (gsC (gN 3) gsN))) bYes (dCall 2 (m_law_same n) (aCons (dVar 2) (aCons (dVar 3) aNil))) (xs.map fun x => .tup [x, x]) [.d (.lst xs), .d (.lst xs), .un, .un] = M.pure ((xs.map fun x => D.tup [x, x]).map fun _ => .bl true) := compM_gen _ fun d hd => by
      obtain ⟨x, hx, rfl⟩ := List.mem_map.mp hd
      have := v_same n x (h2 x hx)
      exact ⟨_, rfl, by simp [DL.sSeq, DL.seqO, DL.sIf, DL.sRet, DL.sSet, DL.sExpr, DL.sNo, DL.sNil, DL.sMany, DL.setS, DL.sAsg, DL.bO_pure, DL.dVar, DL.dC, DL.dOp, DL.dCB, DL.dCall, DL.aCons, DL.aNil, DL.dB, DL.bAnd, DL.bOr, DL.bNot, DL.dAnd, DL.dOr, DL.dNot, DL.dNeg, DL.dChain, DL.dIsi, DL.dIsi2, DL.tyD, DL.Ty.isa, DL.dSlice, DL.pNone, DL.pSome, DL.dTup, DL.dOf, DL.fLst, DL.fComp, DL.fItems, DL.wipeS, DL.iSeq, DL.iR1, DL.iR2, DL.iZip, DL.itemsD, DL.xVal, DL.xNil, DL.dIf, DL.gN, DL.gT, DL.gsN, DL.gsC, DL.aStar, DL.M.pure_bind, DL.M.lift_some, DL.toB_bl, DL.toI_int, DL.ltD_int, DL.leD_int, DL.gtD_int, DL.geD_int, DL.subD_int, DL.addD_int, DL.negD_int, DL.maxD_int, DL.eqD_int, DL.neD_int, DL.eqD_tN, DL.neD_tN, DL.neD_tN0, DL.inD_tN, DL.slD_tN, DL.lenD_tN, DL.fits_map, DL.fits_nil, this]⟩
    have hf : fits (xs.map fun x => D.tup [x, x]) = true := fits_map (Nat.le_trans h1 (by decide))
    have ha := all_true (xs.map fun x => D.tup [x, x])
    simp (implicitDefEqProofs := false) only [b_law_same, DL.sSeq, DL.seqO, DL.sIf, DL.sRet, DL.sSet, DL.sExpr, DL.sNo, DL.sNil, DL.sMany, DL.setS, DL.sAsg, DL.bO_pure, DL.dVar, DL.dC, DL.dOp, DL.dCB, DL.dCall, DL.aCons, DL.aNil, DL.dB, DL.bAnd, DL.bOr, DL.bNot, DL.dAnd, DL.dOr, DL.dNot, DL.dNeg, DL.dChain, DL.dIsi, DL.dIsi2, DL.tyD, DL.Ty.isa, DL.dSlice, DL.pNone, DL.pSome, DL.dTup, DL.dOf, DL.fLst, DL.fComp, DL.fItems, DL.wipeS, DL.iSeq, DL.iR1, DL.iR2, DL.iZip, DL.itemsD, DL.xVal, DL.xNil, DL.dIf, DL.gN, DL.gT, DL.gsN, DL.gsC, DL.aStar, DL.M.pure_bind, DL.M.lift_some, DL.toB_bl, DL.toI_int, DL.ltD_int, DL.leD_int, DL.gtD_int, DL.geD_int, DL.subD_int, DL.addD_int, DL.negD_int, DL.maxD_int, DL.eqD_int, DL.neD_int, DL.eqD_tN, DL.neD_tN, DL.neD_tN0, DL.inD_tN, DL.slD_tN, DL.lenD_tN, DL.fits_map, DL.fits_nil, List.map_cons, List.map_nil, List.replicate, List.cons_append, List.nil_append, Nat.sub_zero, Nat.reduceSub, List.getElem?_cons_zero, List.getElem?_cons_succ, List.length_cons, List.length_nil, Nat.zero_add, Nat.reduceAdd, if_true, List.set_cons_zero, List.set_cons_succ, Option.bind_some, DL.iZipA, e1, neD_bl, hz, hc, hf, ha, Bool.or_true, Bool.or_false, Bool.true_or, beq_self_eq_true, Bool.not_true, Bool.false_eq_true, if_false, decide_true]
  | _ + 1, .str _, h => h.elim
  | _ + 1, .scr _, h => h.elim
  | _ + 1, .tin, h => h.elim
  | _ + 1, .dct _, h => h.elim
/-! ### the helpers of a law: tuples as lists -/
theorem v_lists_int (n : Nat) (i : Int) : m_law_lists (n + 1) [.int i] = M.pure (.int i) := rfl
theorem v_lists_tup {α : Type} {n : Nat} {j t : α → D} {xs : List α} (hl : xs.length ≤ sizeLine) (h : ∀ x ∈ xs, m_law_lists n [j x] = M.pure (t x)) : m_law_lists (n + 1) [.tup (xs.map j)] = M.pure (.lst (xs.map t)) := by
  have hc : compM (gN 1) bYes (dCall 1 (m_law_lists n) (aCons (dVar 1) aNil)) (xs.map j) [.d (.tup (xs.map j)), .un] = M.pure (xs.map t) := compM_ints xs fun x hx => by
    simp [DL.sSeq, DL.seqO, DL.sIf, DL.sRet, DL.sSet, DL.sExpr, DL.sNo, DL.sNil, DL.sMany, DL.setS, DL.sAsg, DL.bO_pure, DL.dVar, DL.dC, DL.dOp, DL.dCB, DL.dCall, DL.aCons, DL.aNil, DL.dB, DL.bAnd, DL.bOr, DL.bNot, DL.dAnd, DL.dOr, DL.dNot, DL.dNeg, DL.dChain, DL.dIsi, DL.dIsi2, DL.tyD, DL.Ty.isa, DL.dSlice, DL.pNone, DL.pSome, DL.dTup, DL.dOf, DL.fLst, DL.fComp, DL.fItems, DL.wipeS, DL.iSeq, DL.iR1, DL.iR2, DL.iZip, DL.itemsD, DL.xVal, DL.xNil, DL.dIf, DL.gN, DL.gT, DL.gsN, DL.gsC, DL.aStar, DL.M.pure_bind, DL.M.lift_some, DL.toB_bl, DL.toI_int, DL.ltD_int, DL.leD_int, DL.gtD_int, DL.geD_int, DL.subD_int, DL.addD_int, DL.negD_int, DL.maxD_int, DL.eqD_int, DL.neD_int, DL.eqD_tN, DL.neD_tN, DL.neD_tN0, DL.inD_tN, DL.slD_tN, DL.lenD_tN, DL.fits_map, DL.fits_nil, h x hx]
  refine runG_rt rfl fun τ => ?_
  simp [b_law_lists, DL.sSeq, DL.seqO, DL.sIf, DL.sRet, DL.sSet, DL.sExpr, DL.sNo, DL.sNil, DL.sMany, DL.setS, DL.sAsg, DL.bO_pure, DL.dVar, DL.dC, DL.dOp, DL.dCB, DL.dCall, DL.aCons, DL.aNil, DL.dB, DL.bAnd, DL.bOr, DL.bNot, DL.dAnd, DL.dOr, DL.dNot, DL.dNeg, DL.dChain, DL.dIsi, DL.dIsi2, DL.tyD, DL.Ty.isa, DL.dSlice, DL.pNone, DL.pSome, DL.dTup, DL.dOf, DL.fLst, DL.fComp, DL.fItems, DL.wipeS, DL.iSeq, DL.iR1, DL.iR2, DL.iZip, DL.itemsD, DL.xVal, DL.xNil, DL.dIf, DL.gN, DL.gT, DL.gsN, DL.gsC, DL.aStar, DL.M.pure_bind, DL.M.lift_some, DL.toB_bl, DL.toI_int, DL.ltD_int, DL.leD_int, DL.gtD_int, DL.geD_int, DL.subD_int, DL.addD_int, DL.negD_int, DL.maxD_int, DL.eqD_int, DL.neD_int, DL.eqD_tN, DL.neD_tN, DL.neD_tN0, DL.inD_tN, DL.slD_tN, DL.lenD_tN, DL.fits_map, DL.fits_nil, hl, hc]
theorem v_lists_tN {n : Nat} {xs : List Int} (hl : xs.length ≤ sizeLine) : m_law_lists (n + 2) [tN xs] = M.pure (lN xs) := v_lists_tup hl fun x _ => v_lists_int n x

/-! ### draws in comprehensions -/
theorem comp_draws {α γ : Type} {f : DL.Env → M D} {ρ : DL.Env} {i : Nat} {j : α → D} {h : γ → D} {P : γ → Prop} {d : Nat} : ∀ (xs : List α) (n : Nat) (τ : Tin), TinOk n τ → (∀ x ∈ xs, ∀ n τ, TinOk n τ → n + d ≤ 100000 → ∃ r τ', f (ρ.set i (.d (j x))) τ = .ok (h r) τ' ∧ P r ∧ TinOk (n + d) τ') → n + d * xs.length ≤ 100000 →
    ∃ (rs : List γ) (τ' : Tin), compM (gN i) bYes f (xs.map j) ρ τ = .ok (rs.map h) τ' ∧ rs.length = xs.length ∧ (∀ r ∈ rs, P r) ∧ TinOk (n + d * xs.length) τ'
  | [], n, τ, t, _, _ => ⟨[], τ, rfl, rfl, by simp, by simpa using t⟩
  | x :: xs, n, τ, t, k, hn => by
    rw [List.length_cons, Nat.mul_succ] at hn
    obtain ⟨r, τ1, e1, p1, t1⟩ := k x List.mem_cons_self n τ t (by omega)
    obtain ⟨rs, τ2, e2, l2, p2, t2⟩ := comp_draws xs (n + d) τ1 t1 (fun y hy => k y (List.mem_cons_of_mem _ hy)) (by omega)
    refine ⟨r :: rs, τ2, ?_, by rw [List.length_cons, List.length_cons, l2], fun z hz => ?_, by rw [List.length_cons, Nat.mul_succ, show n + (d * xs.length + d) = n + d + d * xs.length by omega]; exact t2⟩
    · show M.bind (calm (f (ρ.set i (.d (j x))))) (fun y => M.bind (compM (gN i) bYes f (xs.map j) ρ) fun ys => M.pure (y :: ys)) τ = _
      rw [M.bind_ok (calm_ok e1), M.bind_ok e2]
      rfl
    · rcases List.mem_cons.mp hz with rfl | hz
      · exact p1
      · exact p2 z hz
/-- those that a draw keeps -/
theorem comp_keeps {α : Type} {t : DL.Env → M Bool} {f : DL.Env → M D} {ρ : DL.Env} {i : Nat} {j : α → D} {h : α → D} {d : Nat} : ∀ (xs : List α) (n : Nat) (τ : Tin), TinOk n τ → (∀ x ∈ xs, ∀ n τ, TinOk n τ → n + d ≤ 100000 → ∃ c τ', t (ρ.set i (.d (j x))) τ = .ok c τ' ∧ TinOk (n + d) τ') → (∀ x ∈ xs, f (ρ.set i (.d (j x))) = M.pure (h x)) → n + d * xs.length ≤ 100000 →
    ∃ (ys : List α) (τ' : Tin), compM (gN i) t f (xs.map j) ρ τ = .ok (ys.map h) τ' ∧ ys.Sublist xs ∧ TinOk (n + d * xs.length) τ'
  | [], n, τ, t, _, _, _ => ⟨[], τ, rfl, List.Sublist.refl _, by simpa using t⟩
  | x :: xs, n, τ, tk, k, hf, hn => by
    rw [List.length_cons, Nat.mul_succ] at hn
    obtain ⟨c, τ1, e1, t1⟩ := k x List.mem_cons_self n τ tk (by omega)
    obtain ⟨ys, τ2, e2, s2, t2⟩ := comp_keeps xs (n + d) τ1 t1 (fun y hy => k y (List.mem_cons_of_mem _ hy)) (fun y hy => hf y (List.mem_cons_of_mem _ hy)) (by omega)
    have t3 : TinOk (n + d * (x :: xs).length) τ2 := by rw [List.length_cons, Nat.mul_succ, show n + (d * xs.length + d) = n + d + d * xs.length by omega]; exact t2
    have e0 : ∀ τ, compM (gN i) t f ((x :: xs).map j) ρ τ = M.bind (calm (t (ρ.set i (.d (j x))))) (fun c => if c = true then M.bind (calm (f (ρ.set i (.d (j x))))) fun y => M.bind (compM (gN i) t f (xs.map j) ρ) fun ys => M.pure (y :: ys) else compM (gN i) t f (xs.map j) ρ) τ := fun _ => rfl
    cases c with
    | true =>
      refine ⟨x :: ys, τ2, ?_, s2.cons₂ x, t3⟩
      rw [e0, M.bind_ok (calm_ok e1), if_pos rfl, hf x List.mem_cons_self, calm_pure, M.pure_bind, M.bind_ok e2]
      rfl
    | false =>
      refine ⟨ys, τ2, ?_, s2.cons x, t3⟩
      rw [e0, M.bind_ok (calm_ok e1), if_neg (by decide)]
      exact e2
theorem v_takeN {τ : Tin} {n k : Nat} (h : TinOk n τ) (hn : n ≤ 100000) (h0 : 0 < k) (hk : k < 1073741824) : ∃ r τ', m_law_take [.tin, ni k] τ = .ok (ni r) τ' ∧ r < k ∧ TinOk (n + 1) τ' := by
  obtain ⟨r, τ', e, r0, r1, t⟩ := v_take (k := (k : Int)) h hn (by omega) (by omega)
  refine ⟨r.toNat, τ', ?_, by omega, t⟩
  have : ((r.toNat : Nat) : Int) = r := by omega
  show _ = R.ok (D.int ((r.toNat : Nat) : Int)) τ'
  rw [this]
  exact e
end K41
end

section
set_option Elab.async false
set_option linter.all false
set_option maxRecDepth 100000
set_option maxHeartbeats 4000000
open PySem PySem.Spec PyProof.Rows L2 DL MA
namespace K41
theorem v_law_row {wd many n : Nat} {τ : Tin} (h : TinOk n τ) (hn : n + many ≤ 100000) (h0 : 0 < wd) (hw : wd ≤ 1000) : ∃ text τ', m_law_row [.tin, ni wd, ni many] τ = .ok (ns true text) τ' ∧ text.length = many ∧ Tx wd text ∧ TinOk (n + many) τ' := by
  obtain ⟨rs, τ', e, l, p, t⟩ := comp_draws (f := dOp addD (dC (.int 1)) (dCall 2 (m_law_take) (aCons (dVar 0) (aCons (dVar 1) aNil)))) (ρ := [.d .tin, .d (ni wd), .d (ni many), .un]) (i := 3) (j := fun i : Nat => D.int (i : Int)) (h := fun r : Nat => ni (r + 1)) (P := fun r => r < wd) (d := 1) (List.range many) n τ h (fun x _ n τ t hn => by
    obtain ⟨r, τ', e, hr, t'⟩ := v_takeN (k := wd) t (by omega) h0 (by omega)
    refine ⟨r, τ', ?_, hr, t'⟩
    show M.bind (M.pure (D.int 1)) (fun z => M.bind (dCall 2 m_law_take (aCons (dVar 0) (aCons (dVar 1) aNil)) [.d .tin, .d (ni wd), .d (ni many), .d (.int (x : Int))]) fun y => M.lift (addD z y)) τ = _
    have e2 : dCall 2 m_law_take (aCons (dVar 0) (aCons (dVar 1) aNil)) [.d .tin, .d (ni wd), .d (ni many), .d (.int (x : Int))] τ = .ok (ni r) τ' := e
    rw [M.pure_bind, M.bind_ok e2, add1_ni]
    rfl) (by rw [List.length_range]; omega)
  rw [List.length_range, Nat.one_mul] at t
  refine ⟨rs.map (· + 1), τ', ?_, by rw [List.length_map, l, List.length_range], fun a ha => ?_, t⟩
  · refine runG_at (τ' := τ') rfl ?_
    have e3 : fComp (iR1 (dVar 2)) [3] (gN 3) bYes (dOp addD (dC (.int 1)) (dCall 2 (m_law_take) (aCons (dVar 0) (aCons (dVar 1) aNil)))) [.d .tin, .d (ni wd), .d (ni many), .un] τ = .ok (rs.map fun r => ni (r + 1)) τ' := fComp_at (ds := (List.range many).map fun i : Nat => D.int (i : Int)) (by simp (implicitDefEqProofs := false) only [DL.sSeq, DL.seqO, DL.sIf, DL.sRet, DL.sSet, DL.sExpr, DL.sNo, DL.sNil, DL.sMany, DL.setS, DL.sAsg, DL.bO_pure, DL.dVar, DL.dC, DL.dOp, DL.dCB, DL.dCall, DL.aCons, DL.aNil, DL.dB, DL.bAnd, DL.bOr, DL.bNot, DL.dAnd, DL.dOr, DL.dNot, DL.dNeg, DL.dChain, DL.dIsi, DL.dIsi2, DL.tyD, DL.Ty.isa, DL.dSlice, DL.pNone, DL.pSome, DL.dTup, DL.dOf, DL.fLst, DL.fComp, DL.fItems, DL.wipeS, DL.iSeq, DL.iR1, DL.iR2, DL.iZip, DL.xVal, DL.xNil, DL.dIf, DL.gN, DL.gT, DL.gsN, DL.gsC, DL.aStar, DL.M.pure_bind, DL.M.lift_some, DL.toB_bl, DL.toI_int, DL.fits_map, DL.fits_nil, List.map_cons, List.map_nil, List.replicate, List.cons_append, List.nil_append, Nat.sub_zero, Nat.reduceSub, List.getElem?_cons_zero, List.getElem?_cons_succ, List.length_cons, List.length_nil, Nat.zero_add, Nat.reduceAdd, if_true, List.set_cons_zero, List.set_cons_succ, Option.bind_some, DL.items_tup, DL.items_lst, Bool.false_eq_true, if_false, Bool.not_true, Bool.not_false, Bool.true_and, Bool.and_true, Bool.false_and, DL.dTop, DL.items_sq, DL.len_sq, List.length_map, DL.ix_sq0, DL.ix_sq1, DL.in_ns, DL.nin_ns, DL.eqD_ni, DL.neD_ni, DL.add_ni, DL.lt_ni, DL.le_ni, DL.tuple_sq, DL.int_bl, DL.rangeD_0, Int.toNat_natCast, DL.comp_n, DL.comp_nt, DL.comp_2, DL.comp_2t, DL.mapMM_pure, DL.filtMM_pure, DL.ifp_and, DL.ifp_or, DL.ifd_and, DL.ifd_or, DL.filtMM_yes]) (by rw [List.length_map, List.length_range]; exact Nat.le_trans (show many ≤ 1000000 by omega) (by decide)) e
    have e4 := tup_at e3
    refine (bO_ok e4).trans ?_
    show O.rt (D.tup (rs.map fun r => ni (r + 1))) τ' = O.rt (D.tup ((rs.map (· + 1)).map ni)) τ'
    rw [List.map_map]
    rfl
  · obtain ⟨r, hr, rfl⟩ := List.mem_map.mp ha
    have := p r hr
    omega
end K41
end

section
set_option Elab.async false
set_option linter.all false
set_option maxRecDepth 100000
set_option maxHeartbeats 4000000
open PySem PySem.Spec PyProof.Rows L2 DL MA
namespace K41
section
variable {wd : Nat} {rows : Rows} {ends : List Nat} {a b c e t : Bool}
theorem v_parting {r1 r2 : Rows} {e1 e2 : List Nat} {a1 b1 c1 d1 a2 b2 c2 d2 : Bool} (o1 : Ok wd r1) (o2 : Ok wd r2) {M : Nat} (hM : r1.length * r2.length < M) (h64 : r1.length * r2.length < 64) (hw : wd ≤ 1000) :
    m_parting [mD a1 b1 c1 d1 r1 e1, mD a2 b2 c2 d2 r2 e2] = orCan (partOf M r1 r2 e1 e2) := by
  have os := side_ok o1 o2
  obtain ⟨q1, q2, q3⟩ := least_ok (N := 1000) (ends := sideE (fun a b => a != b) r1.length r2.length e1 e2) os (by rw [side_len]; omega)
  rw [side_len] at q2
  have hj := v_joined (a1 := a1) (b1 := b1) (c1 := c1) (d1 := d1) (a2 := a2) (b2 := b2) (c2 := c2) (d2 := d2) (e1 := e1) (e2 := e2) o1 o2 (N := 1000) (by omega) (by omega) h64 hw
  have hf := v_first_taken (a := true) (b := true) (c := true) (e := true) (ends := leastE 1000 (sideR r1 r2) (sideE (fun a b => a != b) r1.length r2.length e1 e2)) q1 (N := 1000) (by omega) (by omega) hw
  rw [part_one o1 o2 (by omega) hM] at hf
  cases q : partOf M r1 r2 e1 e2 with
  | some u =>
    rw [q] at hf
    refine runG_rt rfl fun τ => ?_
    simp (implicitDefEqProofs := false) only [b_parting, DL.sSeq, DL.seqO, DL.sIf, DL.sRet, DL.sSet, DL.sExpr, DL.sNo, DL.sNil, DL.sMany, DL.setS, DL.sAsg, DL.bO_pure, DL.dVar, DL.dC, DL.dOp, DL.dCB, DL.dCall, DL.aCons, DL.aNil, DL.dB, DL.bAnd, DL.bOr, DL.bNot, DL.dAnd, DL.dOr, DL.dNot, DL.dNeg, DL.dChain, DL.dIsi, DL.dIsi2, DL.tyD, DL.Ty.isa, DL.dSlice, DL.pNone, DL.pSome, DL.dTup, DL.dOf, DL.fLst, DL.fComp, DL.fItems, DL.wipeS, DL.iSeq, DL.iR1, DL.iR2, DL.iZip, DL.xVal, DL.xNil, DL.dIf, DL.gN, DL.gT, DL.gsN, DL.gsC, DL.aStar, DL.M.pure_bind, DL.M.lift_some, DL.toB_bl, DL.toI_int, DL.fits_map, DL.fits_nil, List.map_cons, List.map_nil, List.replicate, List.cons_append, List.nil_append, Nat.sub_zero, Nat.reduceSub, List.getElem?_cons_zero, List.getElem?_cons_succ, List.length_cons, List.length_nil, Nat.zero_add, Nat.reduceAdd, if_true, List.set_cons_zero, List.set_cons_succ, Option.bind_some, DL.items_tup, DL.items_lst, Bool.false_eq_true, if_false, Bool.not_true, Bool.not_false, Bool.true_and, Bool.and_true, Bool.false_and, DL.dTop, DL.items_sq, DL.len_sq, List.length_map, DL.ix_sq0, DL.ix_sq1, DL.in_ns, DL.nin_ns, DL.eqD_ni, DL.neD_ni, DL.add_ni, DL.lt_ni, DL.le_ni, DL.tuple_sq, DL.int_bl, DL.rangeD_0, Int.toNat_natCast, DL.comp_n, DL.comp_nt, DL.comp_2, DL.comp_2t, DL.mapMM_pure, DL.filtMM_pure, DL.ifp_and, DL.ifp_or, DL.ifd_and, DL.ifd_or, DL.filtMM_yes, hj, hf, orCan]
  | none =>
    rw [q] at hf
    refine runG_ex rfl fun τ => ⟨[.d (mD a1 b1 c1 d1 r1 e1), .d (mD a2 b2 c2 d2 r2 e2)], ?_⟩
    simp (implicitDefEqProofs := false) only [b_parting, DL.sSeq, DL.seqO, DL.sIf, DL.sRet, DL.sSet, DL.sExpr, DL.sNo, DL.sNil, DL.sMany, DL.setS, DL.sAsg, DL.bO_pure, DL.dVar, DL.dC, DL.dOp, DL.dCB, DL.dCall, DL.aCons, DL.aNil, DL.dB, DL.bAnd, DL.bOr, DL.bNot, DL.dAnd, DL.dOr, DL.dNot, DL.dNeg, DL.dChain, DL.dIsi, DL.dIsi2, DL.tyD, DL.Ty.isa, DL.dSlice, DL.pNone, DL.pSome, DL.dTup, DL.dOf, DL.fLst, DL.fComp, DL.fItems, DL.wipeS, DL.iSeq, DL.iR1, DL.iR2, DL.iZip, DL.xVal, DL.xNil, DL.dIf, DL.gN, DL.gT, DL.gsN, DL.gsC, DL.aStar, DL.M.pure_bind, DL.M.lift_some, DL.toB_bl, DL.toI_int, DL.fits_map, DL.fits_nil, List.map_cons, List.map_nil, List.replicate, List.cons_append, List.nil_append, Nat.sub_zero, Nat.reduceSub, List.getElem?_cons_zero, List.getElem?_cons_succ, List.length_cons, List.length_nil, Nat.zero_add, Nat.reduceAdd, if_true, List.set_cons_zero, List.set_cons_succ, Option.bind_some, DL.items_tup, DL.items_lst, Bool.false_eq_true, if_false, Bool.not_true, Bool.not_false, Bool.true_and, Bool.and_true, Bool.false_and, DL.dTop, DL.items_sq, DL.len_sq, List.length_map, DL.ix_sq0, DL.ix_sq1, DL.in_ns, DL.nin_ns, DL.eqD_ni, DL.neD_ni, DL.add_ni, DL.lt_ni, DL.le_ni, DL.tuple_sq, DL.int_bl, DL.rangeD_0, Int.toNat_natCast, DL.comp_n, DL.comp_nt, DL.comp_2, DL.comp_2t, DL.mapMM_pure, DL.filtMM_pure, DL.ifp_and, DL.ifp_or, DL.ifd_and, DL.ifd_or, DL.filtMM_yes, hj, hf, orCan]
    rfl
theorem v_is_number (n : Nat) : m_is_number [ni n] = M.pure (.bl true) := rfl
theorem v_is_state (n m : Nat) : m_is_state [ni n, ni m] = M.pure (.bl (decide (n < m))) := by
  have h : leD (.int 0) (ni n) = some (.bl true) := le_ni 0 n
  refine runG_rt rfl fun τ => ?_
  simp (implicitDefEqProofs := false) only [b_is_state, DL.sSeq, DL.seqO, DL.sIf, DL.sRet, DL.sSet, DL.sExpr, DL.sNo, DL.sNil, DL.sMany, DL.setS, DL.sAsg, DL.bO_pure, DL.dVar, DL.dC, DL.dOp, DL.dCB, DL.dCall, DL.aCons, DL.aNil, DL.dB, DL.bAnd, DL.bOr, DL.bNot, DL.dAnd, DL.dOr, DL.dNot, DL.dNeg, DL.dChain, DL.dIsi, DL.dIsi2, DL.tyD, DL.Ty.isa, DL.dSlice, DL.pNone, DL.pSome, DL.dTup, DL.dOf, DL.fLst, DL.fComp, DL.fItems, DL.wipeS, DL.iSeq, DL.iR1, DL.iR2, DL.iZip, DL.xVal, DL.xNil, DL.dIf, DL.gN, DL.gT, DL.gsN, DL.gsC, DL.aStar, DL.M.pure_bind, DL.M.lift_some, DL.toB_bl, DL.toI_int, DL.fits_map, DL.fits_nil, List.map_cons, List.map_nil, List.replicate, List.cons_append, List.nil_append, Nat.sub_zero, Nat.reduceSub, List.getElem?_cons_zero, List.getElem?_cons_succ, List.length_cons, List.length_nil, Nat.zero_add, Nat.reduceAdd, if_true, List.set_cons_zero, List.set_cons_succ, Option.bind_some, DL.items_tup, DL.items_lst, Bool.false_eq_true, if_false, Bool.not_true, Bool.not_false, Bool.true_and, Bool.and_true, Bool.false_and, DL.dTop, DL.items_sq, DL.len_sq, List.length_map, DL.ix_sq0, DL.ix_sq1, DL.in_ns, DL.nin_ns, DL.eqD_ni, DL.neD_ni, DL.add_ni, DL.lt_ni, DL.le_ni, DL.tuple_sq, DL.int_bl, DL.rangeD_0, Int.toNat_natCast, DL.comp_n, DL.comp_nt, DL.comp_2, DL.comp_2t, DL.mapMM_pure, DL.filtMM_pure, DL.ifp_and, DL.ifp_or, DL.ifd_and, DL.ifd_or, DL.filtMM_yes, v_is_number, h]
theorem v_is_tuple2 (x y : D) : m_is_tuple_of [.tup [x, y], .int 2] = M.pure (.bl true) := by
  have h : lenD [.tup [x, y]] = some (.int 2) := rfl
  refine runG_rt rfl fun τ => ?_
  simp (implicitDefEqProofs := false) only [b_is_tuple_of, DL.sSeq, DL.seqO, DL.sIf, DL.sRet, DL.sSet, DL.sExpr, DL.sNo, DL.sNil, DL.sMany, DL.setS, DL.sAsg, DL.bO_pure, DL.dVar, DL.dC, DL.dOp, DL.dCB, DL.dCall, DL.aCons, DL.aNil, DL.dB, DL.bAnd, DL.bOr, DL.bNot, DL.dAnd, DL.dOr, DL.dNot, DL.dNeg, DL.dChain, DL.dIsi, DL.dIsi2, DL.tyD, DL.Ty.isa, DL.dSlice, DL.pNone, DL.pSome, DL.dTup, DL.dOf, DL.fLst, DL.fComp, DL.fItems, DL.wipeS, DL.iSeq, DL.iR1, DL.iR2, DL.iZip, DL.xVal, DL.xNil, DL.dIf, DL.gN, DL.gT, DL.gsN, DL.gsC, DL.aStar, DL.M.pure_bind, DL.M.lift_some, DL.toB_bl, DL.toI_int, DL.fits_map, DL.fits_nil, List.map_cons, List.map_nil, List.replicate, List.cons_append, List.nil_append, Nat.sub_zero, Nat.reduceSub, List.getElem?_cons_zero, List.getElem?_cons_succ, List.length_cons, List.length_nil, Nat.zero_add, Nat.reduceAdd, if_true, List.set_cons_zero, List.set_cons_succ, Option.bind_some, DL.items_tup, DL.items_lst, Bool.false_eq_true, if_false, Bool.not_true, Bool.not_false, Bool.true_and, Bool.and_true, Bool.false_and, DL.dTop, DL.items_sq, DL.len_sq, List.length_map, DL.ix_sq0, DL.ix_sq1, DL.in_ns, DL.nin_ns, DL.eqD_ni, DL.neD_ni, DL.add_ni, DL.lt_ni, DL.le_ni, DL.tuple_sq, DL.int_bl, DL.rangeD_0, Int.toNat_natCast, DL.comp_n, DL.comp_nt, DL.comp_2, DL.comp_2t, DL.mapMM_pure, DL.filtMM_pure, DL.ifp_and, DL.ifp_or, DL.ifd_and, DL.ifd_or, DL.filtMM_yes, h, DL.eqD_int, decide_true]
theorem all_of {α : Type} {p : α → Bool} {xs : List α} (h : ∀ x ∈ xs, p x = true) : allD [.lst (xs.map fun x => D.bl (p x))] = some (.bl true) := by
  rw [allD_map, List.all_eq_true.mpr h]
theorem zip_tail {xs : List Nat} (h : xs.Pairwise (· < ·)) : ∀ p ∈ xs.zip (xs.drop 1), p.1 < p.2 := fun p hp => by
  obtain ⟨k, hk, e⟩ := List.getElem_of_mem hp
  have h1 : (xs.zip (xs.drop 1))[k]? = some p := by rw [List.getElem?_eq_getElem hk, e]
  rw [List.getElem?_zip_eq_some, List.getElem?_drop] at h1
  obtain ⟨a1, b1⟩ := List.getElem?_eq_some_iff.mp h1.1
  obtain ⟨a2, b2⟩ := List.getElem?_eq_some_iff.mp h1.2
  have := List.pairwise_iff_getElem.mp h k (1 + k) a1 a2 (by omega)
  rw [b1, b2] at this
  exact this
theorem v_is_machine (o : Ok wd rows) (h1 : 1 ≤ wd) (h3 : wd ≤ 3) (hl : rows.length ≤ 1000) (he : ends.Pairwise (· < ·)) (hs : ∀ x ∈ ends, x < rows.length) : m_is_machine [mD true true true true rows ends] = M.pure (.bl true) := by
  have el : ends.length ≤ rows.length := nodup_le (he.imp fun h e => by omega) hs
  have t2 := v_is_tuple2 (nss true true rows) (ns true ends)
  have t2 : m_is_tuple_of [.tup [.tup (rows.map (ns true)), .tup (ends.map ni)], .int 2] = _ := t2
  have f1 : ∀ x y : D, fits [x, y] = true := fun _ _ => rfl
  have a1 : allD [.lst [.bl true, .bl true]] = some (.bl true) := rfl
  have i0 : ∀ x y : D, ixD (.tup [x, y]) (.int 0) = some x := fun _ _ => rfl
  have ne : eqD (nss true true rows) (.tup []) = some (.bl false) := by
    have h : eqD (nss true true rows) (nss true true []) = _ := (cod_nat.tup.tup).eqD (by omega) rows []
    refine Eq.trans h ?_
    rw [decide_eq_false]
    intro z
    have := o.pos
    rw [z] at this
    cases this
  have ne : eqD (.tup (rows.map (ns true))) (.tup []) = _ := ne
  have fr : fits (rows.map (ns true)) = true := fits_map (Nat.le_trans hl size1000)
  have ar : allD [.lst (rows.map fun _ => D.bl true)] = some (.bl true) := all_of (p := fun _ => true) fun _ _ => rfl
  have r0 : ixD (.tup (rows.map (ns true))) (.int 0) = some (ns true (nx rows 0)) := ix_nss (b := true) (c := true) o.pos
  have r0 : ixD (.tup (rows.map (ns true))) (.int 0) = some (.tup ((nx rows 0).map ni)) := r0
  have l0 := o.nx_len o.pos
  have c1 : leD (.int 1) (ni wd) = some (.bl true) := (le_ni 1 wd).trans (by rw [decide_eq_true h1])
  have c2 : leD (ni wd) (.int 3) = some (.bl true) := (le_ni wd 3).trans (by rw [decide_eq_true h3])
  have lr : ∀ xs : List D, lenD [.tup xs] = some (.int (xs.length : Nat)) := fun _ => rfl
  have rowok : ∀ {s0 s1 s2 s4 s5 s6 : S}, s1 = .d (nss true true rows) → mapMM (fun x => dAnd (dOp eqD (dCB lenD (aCons (dVar 3) aNil)) (dCB lenD (aCons (dOp ixD (dVar 1) (dC (.int 0))) aNil))) (dCB allD (aCons (dOf (fComp (iSeq (dVar 3)) [4] (gN 4) bYes (dCall 2 (m_is_state) (aCons (dVar 4) (aCons (dCB lenD (aCons (dVar 1) aNil)) aNil))))) aNil)) [s0, s1, s2, .d (ns true x), s4, s5, s6]) rows = M.pure (rows.map fun _ => D.bl true) := fun {s0 s1 s2 s4 s5 s6} q => mapMM_of fun r hr => by
    subst q
    have hrl := (o.row r hr).1
    have hrs := (o.row r hr).2
    have fr2 : fits (r.map ni) = true := fits_map (by rw [hrl]; exact Nat.le_trans (by omega) size1000)
    have ar2 : allD [.lst (r.map fun x => D.bl (decide (x < rows.length)))] = some (.bl true) := all_of fun x hx => decide_eq_true (hrs x hx)
    have r0' : ixD (nss true true rows) (.int 0) = some (ns true (nx rows 0)) := r0
    simp (implicitDefEqProofs := false) only [DL.sSeq, DL.seqO, DL.sIf, DL.sRet, DL.sSet, DL.sExpr, DL.sNo, DL.sNil, DL.sMany, DL.setS, DL.sAsg, DL.bO_pure, DL.dVar, DL.dC, DL.dOp, DL.dCB, DL.dCall, DL.aCons, DL.aNil, DL.dB, DL.bAnd, DL.bOr, DL.bNot, DL.dAnd, DL.dOr, DL.dNot, DL.dNeg, DL.dChain, DL.dIsi, DL.dIsi2, DL.tyD, DL.Ty.isa, DL.dSlice, DL.pNone, DL.pSome, DL.dTup, DL.dOf, DL.fLst, DL.fComp, DL.fItems, DL.wipeS, DL.iSeq, DL.iR1, DL.iR2, DL.iZip, DL.xVal, DL.xNil, DL.dIf, DL.gN, DL.gT, DL.gsN, DL.gsC, DL.aStar, DL.M.pure_bind, DL.M.lift_some, DL.toB_bl, DL.toI_int, DL.fits_map, DL.fits_nil, List.map_cons, List.map_nil, List.replicate, List.cons_append, List.nil_append, Nat.sub_zero, Nat.reduceSub, List.getElem?_cons_zero, List.getElem?_cons_succ, List.length_cons, List.length_nil, Nat.zero_add, Nat.reduceAdd, if_true, List.set_cons_zero, List.set_cons_succ, Option.bind_some, DL.items_tup, DL.items_lst, Bool.false_eq_true, if_false, Bool.not_true, Bool.not_false, Bool.true_and, Bool.and_true, Bool.false_and, DL.dTop, DL.items_sq, DL.len_sq, List.length_map, DL.ix_sq0, DL.ix_sq1, DL.in_ns, DL.nin_ns, DL.eqD_ni, DL.neD_ni, DL.add_ni, DL.lt_ni, DL.le_ni, DL.tuple_sq, DL.int_bl, DL.rangeD_0, Int.toNat_natCast, DL.comp_n, DL.comp_nt, DL.comp_2, DL.comp_2t, DL.mapMM_pure, DL.filtMM_pure, DL.ifp_and, DL.ifp_or, DL.ifd_and, DL.ifd_or, DL.filtMM_yes, r0', l0, hrl, decide_true, fr2, v_is_state, ar2]
  have endok : ∀ {s0 s1 s2 s3 s5 s6 : S}, s1 = .d (nss true true rows) → mapMM (fun x => dCall 2 (m_is_state) (aCons (dVar 4) (aCons (dCB lenD (aCons (dVar 1) aNil)) aNil)) [s0, s1, s2, s3, .d (ni x), s5, s6]) ends = M.pure (ends.map fun x => D.bl (decide (x < rows.length))) := fun {s0 s1 s2 s3 s5 s6} q => mapMM_of fun x hx => by
    subst q
    simp (implicitDefEqProofs := false) only [DL.sSeq, DL.seqO, DL.sIf, DL.sRet, DL.sSet, DL.sExpr, DL.sNo, DL.sNil, DL.sMany, DL.setS, DL.sAsg, DL.bO_pure, DL.dVar, DL.dC, DL.dOp, DL.dCB, DL.dCall, DL.aCons, DL.aNil, DL.dB, DL.bAnd, DL.bOr, DL.bNot, DL.dAnd, DL.dOr, DL.dNot, DL.dNeg, DL.dChain, DL.dIsi, DL.dIsi2, DL.tyD, DL.Ty.isa, DL.dSlice, DL.pNone, DL.pSome, DL.dTup, DL.dOf, DL.fLst, DL.fComp, DL.fItems, DL.wipeS, DL.iSeq, DL.iR1, DL.iR2, DL.iZip, DL.xVal, DL.xNil, DL.dIf, DL.gN, DL.gT, DL.gsN, DL.gsC, DL.aStar, DL.M.pure_bind, DL.M.lift_some, DL.toB_bl, DL.toI_int, DL.fits_map, DL.fits_nil, List.map_cons, List.map_nil, List.replicate, List.cons_append, List.nil_append, Nat.sub_zero, Nat.reduceSub, List.getElem?_cons_zero, List.getElem?_cons_succ, List.length_cons, List.length_nil, Nat.zero_add, Nat.reduceAdd, if_true, List.set_cons_zero, List.set_cons_succ, Option.bind_some, DL.items_tup, DL.items_lst, Bool.false_eq_true, if_false, Bool.not_true, Bool.not_false, Bool.true_and, Bool.and_true, Bool.false_and, DL.dTop, DL.items_sq, DL.len_sq, List.length_map, DL.ix_sq0, DL.ix_sq1, DL.in_ns, DL.nin_ns, DL.eqD_ni, DL.neD_ni, DL.add_ni, DL.lt_ni, DL.le_ni, DL.tuple_sq, DL.int_bl, DL.rangeD_0, Int.toNat_natCast, DL.comp_n, DL.comp_nt, DL.comp_2, DL.comp_2t, DL.mapMM_pure, DL.filtMM_pure, DL.ifp_and, DL.ifp_or, DL.ifd_and, DL.ifd_or, DL.filtMM_yes, v_is_state]
  have ae : allD [.lst (ends.map fun x => D.bl (decide (x < rows.length)))] = some (.bl true) := all_of fun x hx => decide_eq_true (hs x hx)
  have fe : fits (ends.map ni) = true := fits_map (Nat.le_trans (by omega) size1000)
  have hz : ∀ {s0 s1 s3 s4 s5 s6 : S}, DL.iZipA (dVar 2) (dSlice (dVar 2) (pSome (dC (.int 1))) pNone) [s0, s1, .d (ns true ends), s3, s4, s5, s6] = M.pure ((ends.zip (ends.drop 1)).map fun p => D.tup [ni p.1, ni p.2]) := fun {s0 s1 s3 s4 s5 s6} => zip_sq true true _ _ _ ni ni ends (ends.drop 1) rfl (by
    have h : slD (some 1) none (ns true ends) = some (ns true (ends.drop 1)) := by rw [sl_sq, cutL_lo ends (by decide)]; rfl
    simp (implicitDefEqProofs := false) only [DL.sSeq, DL.seqO, DL.sIf, DL.sRet, DL.sSet, DL.sExpr, DL.sNo, DL.sNil, DL.sMany, DL.setS, DL.sAsg, DL.bO_pure, DL.dVar, DL.dC, DL.dOp, DL.dCB, DL.dCall, DL.aCons, DL.aNil, DL.dB, DL.bAnd, DL.bOr, DL.bNot, DL.dAnd, DL.dOr, DL.dNot, DL.dNeg, DL.dChain, DL.dIsi, DL.dIsi2, DL.tyD, DL.Ty.isa, DL.dSlice, DL.pNone, DL.pSome, DL.dTup, DL.dOf, DL.fLst, DL.fComp, DL.fItems, DL.wipeS, DL.iSeq, DL.iR1, DL.iR2, DL.iZip, DL.xVal, DL.xNil, DL.dIf, DL.gN, DL.gT, DL.gsN, DL.gsC, DL.aStar, DL.M.pure_bind, DL.M.lift_some, DL.toB_bl, DL.toI_int, DL.fits_map, DL.fits_nil, List.map_cons, List.map_nil, List.replicate, List.cons_append, List.nil_append, Nat.sub_zero, Nat.reduceSub, List.getElem?_cons_zero, List.getElem?_cons_succ, List.length_cons, List.length_nil, Nat.zero_add, Nat.reduceAdd, if_true, List.set_cons_zero, List.set_cons_succ, Option.bind_some, DL.items_tup, DL.items_lst, Bool.false_eq_true, if_false, Bool.not_true, Bool.not_false, Bool.true_and, Bool.and_true, Bool.false_and, DL.dTop, h])
  have fz : fits ((ends.zip (ends.drop 1)).map fun p => D.tup [ni p.1, ni p.2]) = true := fits_map (by rw [List.length_zip]; exact Nat.le_trans (show _ ≤ 1000 by omega) size1000)
  have az : allD [.lst ((ends.zip (ends.drop 1)).map fun p => D.bl (decide (p.1 < p.2)))] = some (.bl true) := all_of fun p hp => decide_eq_true (zip_tail he p hp)
  refine runG_rt rfl fun τ => ?_
  refine st_ifn ?_ ?_
  · show bOr _ _ [.d (.tup [.tup (rows.map (ns true)), .tup (ends.map ni)]), .un, .un, .un, .un, .un, .un] = _
    simp (implicitDefEqProofs := false) only [DL.sSeq, DL.seqO, DL.sIf, DL.sRet, DL.sSet, DL.sExpr, DL.sNo, DL.sNil, DL.sMany, DL.setS, DL.sAsg, DL.bO_pure, DL.dVar, DL.dC, DL.dOp, DL.dCB, DL.dCall, DL.aCons, DL.aNil, DL.dB, DL.bAnd, DL.bOr, DL.bNot, DL.dAnd, DL.dOr, DL.dNot, DL.dNeg, DL.dChain, DL.dIsi, DL.dIsi2, DL.tyD, DL.Ty.isa, DL.dSlice, DL.pNone, DL.pSome, DL.dTup, DL.dOf, DL.fLst, DL.fComp, DL.fItems, DL.wipeS, DL.iSeq, DL.iR1, DL.iR2, DL.iZip, DL.xVal, DL.xNil, DL.dIf, DL.gN, DL.gT, DL.gsN, DL.gsC, DL.aStar, DL.M.pure_bind, DL.M.lift_some, DL.toB_bl, DL.toI_int, DL.fits_map, DL.fits_nil, List.map_cons, List.map_nil, List.replicate, List.cons_append, List.nil_append, Nat.sub_zero, Nat.reduceSub, List.getElem?_cons_zero, List.getElem?_cons_succ, List.length_cons, List.length_nil, Nat.zero_add, Nat.reduceAdd, if_true, List.set_cons_zero, List.set_cons_succ, Option.bind_some, DL.items_tup, DL.items_lst, Bool.false_eq_true, if_false, Bool.not_true, Bool.not_false, Bool.true_and, Bool.and_true, Bool.false_and, DL.dTop, t2, f1, i0, ne]
    simp (implicitDefEqProofs := false) only [compM, calm_pure, DL.M.pure_bind, bYes, if_true, gN, DL.sSeq, DL.seqO, DL.sIf, DL.sRet, DL.sSet, DL.sExpr, DL.sNo, DL.sNil, DL.sMany, DL.setS, DL.sAsg, DL.bO_pure, DL.dVar, DL.dC, DL.dOp, DL.dCB, DL.dCall, DL.aCons, DL.aNil, DL.dB, DL.bAnd, DL.bOr, DL.bNot, DL.dAnd, DL.dOr, DL.dNot, DL.dNeg, DL.dChain, DL.dIsi, DL.dIsi2, DL.tyD, DL.Ty.isa, DL.dSlice, DL.pNone, DL.pSome, DL.dTup, DL.dOf, DL.fLst, DL.fComp, DL.fItems, DL.wipeS, DL.iSeq, DL.iR1, DL.iR2, DL.iZip, DL.xVal, DL.xNil, DL.dIf, DL.gN, DL.gT, DL.gsN, DL.gsC, DL.aStar, DL.M.pure_bind, DL.M.lift_some, DL.toB_bl, DL.toI_int, DL.fits_map, DL.fits_nil, List.map_cons, List.map_nil, List.replicate, List.cons_append, List.nil_append, Nat.sub_zero, Nat.reduceSub, List.getElem?_cons_zero, List.getElem?_cons_succ, List.length_cons, List.length_nil, Nat.zero_add, Nat.reduceAdd, if_true, List.set_cons_zero, List.set_cons_succ, Option.bind_some, DL.items_tup, DL.items_lst, Bool.false_eq_true, if_false, Bool.not_true, Bool.not_false, Bool.true_and, Bool.and_true, Bool.false_and, DL.dTop, a1]
  refine st_asg (d := mD true true true true rows ends) (ρ1 := [.d (mD true true true true rows ends), .d (nss true true rows), .d (ns true ends), .un, .un, .un, .un]) rfl rfl ?_
  refine st_ifn ?_ ?_
  · show bOr _ _ [.d (mD true true true true rows ends), .d (.tup (rows.map (ns true))), .d (ns true ends), .un, .un, .un, .un] = _
    have q2 : fComp (iSeq (dVar 1)) [3] (gN 3) bYes (dIsi .tup (dVar 3)) [.d (mD true true true true rows ends), .d (.tup (rows.map (ns true))), .d (ns true ends), .un, .un, .un, .un] = M.pure (rows.map fun _ => D.bl true) := fComp_of (ds := rows.map (ns true)) rfl (by rw [List.length_map]; exact Nat.le_trans hl size1000) (by rw [comp_n]; exact mapMM_of fun x _ => rfl)
    have q3 : dB (dCB allD (aCons (dOf (fComp (iSeq (dVar 1)) [3] (gN 3) bYes (dIsi .tup (dVar 3)))) aNil)) [.d (mD true true true true rows ends), .d (.tup (rows.map (ns true))), .d (ns true ends), .un, .un, .un, .un] = M.pure true := by
      simp (implicitDefEqProofs := false) only [DL.dB, DL.dCB, DL.aCons, DL.aNil, DL.dOf, q2, DL.M.pure_bind, ar, DL.M.lift_some, DL.toB_bl]
    unfold bOr bNot
    rw [q3]
    simp (implicitDefEqProofs := false) only [DL.sSeq, DL.seqO, DL.sIf, DL.sRet, DL.sSet, DL.sExpr, DL.sNo, DL.sNil, DL.sMany, DL.setS, DL.sAsg, DL.bO_pure, DL.dVar, DL.dC, DL.dOp, DL.dCB, DL.dCall, DL.aCons, DL.aNil, DL.dB, DL.bAnd, DL.bOr, DL.bNot, DL.dAnd, DL.dOr, DL.dNot, DL.dNeg, DL.dChain, DL.dIsi, DL.dIsi2, DL.tyD, DL.Ty.isa, DL.dSlice, DL.pNone, DL.pSome, DL.dTup, DL.dOf, DL.fLst, DL.fComp, DL.fItems, DL.wipeS, DL.iSeq, DL.iR1, DL.iR2, DL.iZip, DL.xVal, DL.xNil, DL.dIf, DL.gN, DL.gT, DL.gsN, DL.gsC, DL.aStar, DL.M.pure_bind, DL.M.lift_some, DL.toB_bl, DL.toI_int, DL.fits_map, DL.fits_nil, List.map_cons, List.map_nil, List.replicate, List.cons_append, List.nil_append, Nat.sub_zero, Nat.reduceSub, List.getElem?_cons_zero, List.getElem?_cons_succ, List.length_cons, List.length_nil, Nat.zero_add, Nat.reduceAdd, if_true, List.set_cons_zero, List.set_cons_succ, Option.bind_some, DL.items_tup, DL.items_lst, Bool.false_eq_true, if_false, Bool.not_true, Bool.not_false, Bool.true_and, Bool.and_true, Bool.false_and, DL.dTop, r0, lr, List.length_map, l0, c1, c2, c_MOST_WIDE]
  refine st_ifn ?_ ?_
  · have q := rowok (s0 := .d (mD true true true true rows ends)) (s2 := .d (ns true ends)) (s4 := .un) (s5 := .un) (s6 := .un) rfl
    show bNot (dB (dCB allD (aCons (dOf (fComp (iSeq (dVar 1)) [3] (gN 3) bYes _)) aNil))) [.d (mD true true true true rows ends), .d (nss true true rows), .d (ns true ends), .un, .un, .un, .un] = _
    have q2 : fComp (iSeq (dVar 1)) [3] (gN 3) bYes (dAnd (dOp eqD (dCB lenD (aCons (dVar 3) aNil)) (dCB lenD (aCons (dOp ixD (dVar 1) (dC (.int 0))) aNil))) (dCB allD (aCons (dOf (fComp (iSeq (dVar 3)) [4] (gN 4) bYes (dCall 2 (m_is_state) (aCons (dVar 4) (aCons (dCB lenD (aCons (dVar 1) aNil)) aNil))))) aNil))) [.d (mD true true true true rows ends), .d (nss true true rows), .d (ns true ends), .un, .un, .un, .un] = M.pure (rows.map fun _ => D.bl true) := fComp_of (ds := rows.map (ns true)) rfl (by rw [List.length_map]; exact Nat.le_trans hl size1000) (by rw [comp_n]; exact q)
    simp (implicitDefEqProofs := false) only [DL.bNot, DL.dB, DL.dCB, DL.aCons, DL.aNil, DL.dOf, q2, DL.M.pure_bind, ar, DL.M.lift_some, DL.toB_bl, Bool.not_true]
  · have q := endok (s0 := .d (mD true true true true rows ends)) (s2 := .d (ns true ends)) (s3 := .un) (s5 := .un) (s6 := .un) rfl
    have q2 : fComp (iSeq (dVar 2)) [4] (gN 4) bYes (dCall 2 (m_is_state) (aCons (dVar 4) (aCons (dCB lenD (aCons (dVar 1) aNil)) aNil))) [.d (mD true true true true rows ends), .d (nss true true rows), .d (ns true ends), .un, .un, .un, .un] = M.pure (ends.map fun x => D.bl (decide (x < rows.length))) := fComp_of (ds := ends.map ni) rfl (by rw [List.length_map]; exact Nat.le_trans (by omega) size1000) (by rw [comp_n]; exact q)
    have q3 : fComp (DL.iZipA (dVar 2) (dSlice (dVar 2) (pSome (dC (.int 1))) pNone)) [5, 6] (gT 2 (gsC (gN 5) (gsC (gN 6) gsN))) bYes (dOp ltD (dVar 5) (dVar 6)) [.d (mD true true true true rows ends), .d (nss true true rows), .d (ns true ends), .un, .un, .un, .un] = M.pure ((ends.zip (ends.drop 1)).map fun p => D.bl (decide (p.1 < p.2))) := fComp_of (ds := (ends.zip (ends.drop 1)).map fun p => D.tup [ni p.1, ni p.2]) hz (by rw [List.length_map, List.length_zip]; exact Nat.le_trans (show _ ≤ 1000 by omega) size1000) (by
      rw [comp_2]
      exact mapMM_of fun p _ => by simp (implicitDefEqProofs := false) only [DL.sSeq, DL.seqO, DL.sIf, DL.sRet, DL.sSet, DL.sExpr, DL.sNo, DL.sNil, DL.sMany, DL.setS, DL.sAsg, DL.bO_pure, DL.dVar, DL.dC, DL.dOp, DL.dCB, DL.dCall, DL.aCons, DL.aNil, DL.dB, DL.bAnd, DL.bOr, DL.bNot, DL.dAnd, DL.dOr, DL.dNot, DL.dNeg, DL.dChain, DL.dIsi, DL.dIsi2, DL.tyD, DL.Ty.isa, DL.dSlice, DL.pNone, DL.pSome, DL.dTup, DL.dOf, DL.fLst, DL.fComp, DL.fItems, DL.wipeS, DL.iSeq, DL.iR1, DL.iR2, DL.iZip, DL.xVal, DL.xNil, DL.dIf, DL.gN, DL.gT, DL.gsN, DL.gsC, DL.aStar, DL.M.pure_bind, DL.M.lift_some, DL.toB_bl, DL.toI_int, DL.fits_map, DL.fits_nil, List.map_cons, List.map_nil, List.replicate, List.cons_append, List.nil_append, Nat.sub_zero, Nat.reduceSub, List.getElem?_cons_zero, List.getElem?_cons_succ, List.length_cons, List.length_nil, Nat.zero_add, Nat.reduceAdd, if_true, List.set_cons_zero, List.set_cons_succ, Option.bind_some, DL.items_tup, DL.items_lst, Bool.false_eq_true, if_false, Bool.not_true, Bool.not_false, Bool.true_and, Bool.and_true, Bool.false_and, DL.dTop, DL.items_sq, DL.len_sq, List.length_map, DL.ix_sq0, DL.ix_sq1, DL.in_ns, DL.nin_ns, DL.eqD_ni, DL.neD_ni, DL.add_ni, DL.lt_ni, DL.le_ni, DL.tuple_sq, DL.int_bl, DL.rangeD_0, Int.toNat_natCast, DL.comp_n, DL.comp_nt, DL.comp_2, DL.comp_2t, DL.mapMM_pure, DL.filtMM_pure, DL.ifp_and, DL.ifp_or, DL.ifd_and, DL.ifd_or, DL.filtMM_yes])
    refine st_ret ?_
    show dAnd _ _ [.d (mD true true true true rows ends), .d (nss true true rows), .d (ns true ends), .un, .un, .un, .un] = _
    simp (implicitDefEqProofs := false) only [DL.dAnd, DL.dCB, DL.aCons, DL.aNil, DL.dOf, q2, q3, DL.M.pure_bind, ae, az, DL.M.lift_some, DL.toB_bl, if_true]
theorem v_is_machine_no (xs : List D) : m_is_machine [.lst xs] = M.pure (.bl false) := by
  have h : m_is_tuple_of [.lst xs, .int 2] = M.pure (.bl false) := by
    refine runG_rt rfl fun τ => ?_
    simp (implicitDefEqProofs := false) only [b_is_tuple_of, DL.sSeq, DL.seqO, DL.sIf, DL.sRet, DL.sSet, DL.sExpr, DL.sNo, DL.sNil, DL.sMany, DL.setS, DL.sAsg, DL.bO_pure, DL.dVar, DL.dC, DL.dOp, DL.dCB, DL.dCall, DL.aCons, DL.aNil, DL.dB, DL.bAnd, DL.bOr, DL.bNot, DL.dAnd, DL.dOr, DL.dNot, DL.dNeg, DL.dChain, DL.dIsi, DL.dIsi2, DL.tyD, DL.Ty.isa, DL.dSlice, DL.pNone, DL.pSome, DL.dTup, DL.dOf, DL.fLst, DL.fComp, DL.fItems, DL.wipeS, DL.iSeq, DL.iR1, DL.iR2, DL.iZip, DL.xVal, DL.xNil, DL.dIf, DL.gN, DL.gT, DL.gsN, DL.gsC, DL.aStar, DL.M.pure_bind, DL.M.lift_some, DL.toB_bl, DL.toI_int, DL.fits_map, DL.fits_nil, List.map_cons, List.map_nil, List.replicate, List.cons_append, List.nil_append, Nat.sub_zero, Nat.reduceSub, List.getElem?_cons_zero, List.getElem?_cons_succ, List.length_cons, List.length_nil, Nat.zero_add, Nat.reduceAdd, if_true, List.set_cons_zero, List.set_cons_succ, Option.bind_some, DL.items_tup, DL.items_lst, Bool.false_eq_true, if_false, Bool.not_true, Bool.not_false, Bool.true_and, Bool.and_true, Bool.false_and, DL.dTop, DL.items_sq, DL.len_sq, List.length_map, DL.ix_sq0, DL.ix_sq1, DL.in_ns, DL.nin_ns, DL.eqD_ni, DL.neD_ni, DL.add_ni, DL.lt_ni, DL.le_ni, DL.tuple_sq, DL.int_bl, DL.rangeD_0, Int.toNat_natCast, DL.comp_n, DL.comp_nt, DL.comp_2, DL.comp_2t, DL.mapMM_pure, DL.filtMM_pure, DL.ifp_and, DL.ifp_or, DL.ifd_and, DL.ifd_or, DL.filtMM_yes]
  refine runG_rt rfl fun τ => ?_
  simp (implicitDefEqProofs := false) only [b_is_machine, DL.sSeq, DL.seqO, DL.sIf, DL.sRet, DL.sSet, DL.sExpr, DL.sNo, DL.sNil, DL.sMany, DL.setS, DL.sAsg, DL.bO_pure, DL.dVar, DL.dC, DL.dOp, DL.dCB, DL.dCall, DL.aCons, DL.aNil, DL.dB, DL.bAnd, DL.bOr, DL.bNot, DL.dAnd, DL.dOr, DL.dNot, DL.dNeg, DL.dChain, DL.dIsi, DL.dIsi2, DL.tyD, DL.Ty.isa, DL.dSlice, DL.pNone, DL.pSome, DL.dTup, DL.dOf, DL.fLst, DL.fComp, DL.fItems, DL.wipeS, DL.iSeq, DL.iR1, DL.iR2, DL.iZip, DL.xVal, DL.xNil, DL.dIf, DL.gN, DL.gT, DL.gsN, DL.gsC, DL.aStar, DL.M.pure_bind, DL.M.lift_some, DL.toB_bl, DL.toI_int, DL.fits_map, DL.fits_nil, List.map_cons, List.map_nil, List.replicate, List.cons_append, List.nil_append, Nat.sub_zero, Nat.reduceSub, List.getElem?_cons_zero, List.getElem?_cons_succ, List.length_cons, List.length_nil, Nat.zero_add, Nat.reduceAdd, if_true, List.set_cons_zero, List.set_cons_succ, Option.bind_some, DL.items_tup, DL.items_lst, Bool.false_eq_true, if_false, Bool.not_true, Bool.not_false, Bool.true_and, Bool.and_true, Bool.false_and, DL.dTop, DL.items_sq, DL.len_sq, List.length_map, DL.ix_sq0, DL.ix_sq1, DL.in_ns, DL.nin_ns, DL.eqD_ni, DL.neD_ni, DL.add_ni, DL.lt_ni, DL.le_ni, DL.tuple_sq, DL.int_bl, DL.rangeD_0, Int.toNat_natCast, DL.comp_n, DL.comp_nt, DL.comp_2, DL.comp_2t, DL.mapMM_pure, DL.filtMM_pure, DL.ifp_and, DL.ifp_or, DL.ifd_and, DL.ifd_or, DL.filtMM_yes, h]
end
end K41
end

section
set_option Elab.async false
set_option linter.all false
set_option maxRecDepth 100000
set_option maxHeartbeats 4000000
open PySem PySem.Spec PyProof.Rows L2 DL MA
namespace K41
section
variable {wd : Nat} {rows : Rows} {ends : List Nat} {a b c e t : Bool}
theorem v_law_run_of (o : Ok wd rows) {text : List Nat} (ht : Tx wd text) : m_law_run_of [mD a b c e rows ends, ns t text] = M.pure (ni (run rows 0 (low text))) := v_state_after (a := a) (b := b) (c := c) (e := e) (t := t) (ends := ends) o ht
theorem v_law_machine {wd n : Nat} {τ : Tin} (h : TinOk n τ) (hn : n ≤ 1000) (h0 : 0 < wd) (hw : wd ≤ 3) : ∃ (rows : Rows) (ends : List Nat) (τ' : Tin), m_law_machine [.tin, ni wd] τ = .ok (mD true true true true rows ends) τ' ∧ Ok wd rows ∧ rows.length ≤ 6 ∧ ends.Pairwise (· < ·) ∧ (∀ x ∈ ends, x < rows.length) ∧ TinOk (n + 100) τ' := by
  obtain ⟨r0, τ0, e0, h6, t0⟩ := v_takeN (k := 6) h (by omega) (by omega) (by omega)
  have e0 : m_law_take [.tin, .int 6] τ = _ := e0
  let many := r0 + 1
  have hm : 0 < many := Nat.succ_pos _
  have hm6 : many ≤ 6 := by show r0 + 1 ≤ 6; omega
  -- the rows
  obtain ⟨rows, τ1, e1, l1, p1, t1⟩ := comp_draws (f := dCB tupleD (aCons (dOf (fComp (iR1 (dVar 1)) [5] (gN 5) bYes (dCall 2 (m_law_take) (aCons (dVar 0) (aCons (dVar 2) aNil))))) aNil)) (ρ := [.d .tin, .d (ni wd), .d (ni many), .un, .un, .un]) (i := 4) (j := fun i : Nat => D.int (i : Int)) (h := fun r : List Nat => ns true r) (P := fun r => r.length = wd ∧ ∀ x ∈ r, x < many) (d := 3) (List.range many) (n + 1) τ0 t0 (fun x _ n τ t hn => by
    obtain ⟨rs, τ', e, l, p, t⟩ := comp_draws (f := dCall 2 (m_law_take) (aCons (dVar 0) (aCons (dVar 2) aNil))) (ρ := [.d .tin, .d (ni wd), .d (ni many), .un, .d (.int (x : Int)), .un]) (i := 5) (j := fun i : Nat => D.int (i : Int)) (h := ni) (P := fun r => r < many) (d := 1) (List.range wd) n τ t (fun y _ n τ t hn => by
      obtain ⟨r, τ', e, hr, t'⟩ := v_takeN (k := many) t (by omega) hm (by omega)
      exact ⟨r, τ', e, hr, t'⟩) (by rw [List.length_range]; omega)
    rw [List.length_range] at l t
    refine ⟨rs, τ', tup_at (fComp_at (ds := (List.range wd).map fun i : Nat => D.int (i : Int)) ?_ (by rw [List.length_map, List.length_range]; exact Nat.le_trans (show wd ≤ 1000 by omega) size1000) e), ⟨l, p⟩, ?_⟩
    · simp (implicitDefEqProofs := false) only [DL.sSeq, DL.seqO, DL.sIf, DL.sRet, DL.sSet, DL.sExpr, DL.sNo, DL.sNil, DL.sMany, DL.setS, DL.sAsg, DL.bO_pure, DL.dVar, DL.dC, DL.dOp, DL.dCB, DL.dCall, DL.aCons, DL.aNil, DL.dB, DL.bAnd, DL.bOr, DL.bNot, DL.dAnd, DL.dOr, DL.dNot, DL.dNeg, DL.dChain, DL.dIsi, DL.dIsi2, DL.tyD, DL.Ty.isa, DL.dSlice, DL.pNone, DL.pSome, DL.dTup, DL.dOf, DL.fLst, DL.fComp, DL.fItems, DL.wipeS, DL.iSeq, DL.iR1, DL.iR2, DL.iZip, DL.xVal, DL.xNil, DL.dIf, DL.gN, DL.gT, DL.gsN, DL.gsC, DL.aStar, DL.M.pure_bind, DL.M.lift_some, DL.toB_bl, DL.toI_int, DL.fits_map, DL.fits_nil, List.map_cons, List.map_nil, List.replicate, List.cons_append, List.nil_append, Nat.sub_zero, Nat.reduceSub, List.getElem?_cons_zero, List.getElem?_cons_succ, List.length_cons, List.length_nil, Nat.zero_add, Nat.reduceAdd, if_true, List.set_cons_zero, List.set_cons_succ, Option.bind_some, DL.items_tup, DL.items_lst, Bool.false_eq_true, if_false, Bool.not_true, Bool.not_false, Bool.true_and, Bool.and_true, Bool.false_and, DL.dTop, DL.items_sq, DL.len_sq, List.length_map, DL.ix_sq0, DL.ix_sq1, DL.in_ns, DL.nin_ns, DL.eqD_ni, DL.neD_ni, DL.add_ni, DL.lt_ni, DL.le_ni, DL.tuple_sq, DL.int_bl, DL.rangeD_0, Int.toNat_natCast, DL.comp_n, DL.comp_nt, DL.comp_2, DL.comp_2t, DL.mapMM_pure, DL.filtMM_pure, DL.ifp_and, DL.ifp_or, DL.ifd_and, DL.ifd_or, DL.filtMM_yes]
    · obtain ⟨q1, q2, q3, q4⟩ := t
      exact ⟨q1, q2, q3, by omega⟩) (by rw [List.length_range]; omega)
  rw [List.length_range] at l1 t1
  have o : Ok wd rows := ⟨by omega, fun r hr => ⟨(p1 r hr).1, fun x hx => by rw [l1]; exact (p1 r hr).2 x hx⟩⟩
  -- the ends
  obtain ⟨ends, τ2, e2, s2, t2⟩ := comp_keeps (t := dB (dOp eqD (dCall 2 (m_law_take) (aCons (dVar 0) (aCons (dC (.int 2)) aNil))) (dC (.int 0)))) (f := dVar 4) (ρ := [.d .tin, .d (ni wd), .d (ni many), .d (nss true true rows), .un, .un]) (i := 4) (j := fun i : Nat => D.int (i : Int)) (h := ni) (d := 1) (List.range many) (n + 1 + 3 * many) τ1 t1 (fun x _ n τ t hn => by
    obtain ⟨r, τ', e, hr, t'⟩ := v_takeN (k := 2) t (by omega) (by omega) (by omega)
    refine ⟨decide (r = 0), τ', ?_, t'⟩
    have e : dCall 2 (m_law_take) (aCons (dVar 0) (aCons (dC (.int 2)) aNil)) [.d .tin, .d (ni wd), .d (ni many), .d (nss true true rows), .d (.int (x : Int)), .un] τ = .ok (ni r) τ' := e
    have q : eqD (ni r) (.int 0) = some (.bl (decide (r = 0))) := eqD_ni r 0
    show M.bind (M.bind (dCall 2 (m_law_take) (aCons (dVar 0) (aCons (dC (.int 2)) aNil)) [.d .tin, .d (ni wd), .d (ni many), .d (nss true true rows), .d (.int (x : Int)), .un]) fun x => M.bind (M.pure (D.int 0)) fun y => M.lift (eqD x y)) toB τ = _
    rw [M.bind_assoc, M.bind_ok e, M.pure_bind, q]
    rfl) (fun x _ => rfl) (by rw [List.length_range]; omega)
  rw [List.length_range] at t2
  refine ⟨rows, ends, τ2, ?_, o, by omega, ?_, fun x hx => by rw [l1]; exact List.mem_range.mp (s2.subset hx), ?_⟩
  · refine runG_at (τ' := τ2) rfl ?_
    refine st_setE (d := ni many) (τ' := τ0) ?_ ?_
    · show M.bind (M.pure (D.int 1)) (fun x => M.bind (dCall 2 m_law_take (aCons (dVar 0) (aCons (dC (.int 6)) aNil)) [.d .tin, .d (ni wd), .un, .un, .un, .un]) fun y => M.lift (addD x y)) τ = _
      have e3 : dCall 2 m_law_take (aCons (dVar 0) (aCons (dC (.int 6)) aNil)) [.d .tin, .d (ni wd), .un, .un, .un, .un] τ = .ok (ni r0) τ0 := e0
      rw [M.pure_bind, M.bind_ok e3, add1_ni]
      rfl
    · refine st_setE (d := nss true true rows) (τ' := τ1) (tup_at (fComp_at (ds := (List.range many).map fun i : Nat => D.int (i : Int)) ?_ (by rw [List.length_map, List.length_range]; exact Nat.le_trans (show many ≤ 1000 by omega) size1000) e1)) ?_
      · simp (implicitDefEqProofs := false) only [DL.sSeq, DL.seqO, DL.sIf, DL.sRet, DL.sSet, DL.sExpr, DL.sNo, DL.sNil, DL.sMany, DL.setS, DL.sAsg, DL.bO_pure, DL.dVar, DL.dC, DL.dOp, DL.dCB, DL.dCall, DL.aCons, DL.aNil, DL.dB, DL.bAnd, DL.bOr, DL.bNot, DL.dAnd, DL.dOr, DL.dNot, DL.dNeg, DL.dChain, DL.dIsi, DL.dIsi2, DL.tyD, DL.Ty.isa, DL.dSlice, DL.pNone, DL.pSome, DL.dTup, DL.dOf, DL.fLst, DL.fComp, DL.fItems, DL.wipeS, DL.iSeq, DL.iR1, DL.iR2, DL.iZip, DL.xVal, DL.xNil, DL.dIf, DL.gN, DL.gT, DL.gsN, DL.gsC, DL.aStar, DL.M.pure_bind, DL.M.lift_some, DL.toB_bl, DL.toI_int, DL.fits_map, DL.fits_nil, List.map_cons, List.map_nil, List.replicate, List.cons_append, List.nil_append, Nat.sub_zero, Nat.reduceSub, List.getElem?_cons_zero, List.getElem?_cons_succ, List.length_cons, List.length_nil, Nat.zero_add, Nat.reduceAdd, if_true, List.set_cons_zero, List.set_cons_succ, Option.bind_some, DL.items_tup, DL.items_lst, Bool.false_eq_true, if_false, Bool.not_true, Bool.not_false, Bool.true_and, Bool.and_true, Bool.false_and, DL.dTop, DL.items_sq, DL.len_sq, List.length_map, DL.ix_sq0, DL.ix_sq1, DL.in_ns, DL.nin_ns, DL.eqD_ni, DL.neD_ni, DL.add_ni, DL.lt_ni, DL.le_ni, DL.tuple_sq, DL.int_bl, DL.rangeD_0, Int.toNat_natCast, DL.comp_n, DL.comp_nt, DL.comp_2, DL.comp_2t, DL.mapMM_pure, DL.filtMM_pure, DL.ifp_and, DL.ifp_or, DL.ifd_and, DL.ifd_or, DL.filtMM_yes]
      · have e5 := tup_at (fComp_at (fi := iR1 (dVar 2)) (own := [4]) (ρ := [.d .tin, .d (ni wd), .d (ni many), .d (nss true true rows), .un, .un]) (ds := (List.range many).map fun i : Nat => D.int (i : Int)) (by simp (implicitDefEqProofs := false) only [DL.sSeq, DL.seqO, DL.sIf, DL.sRet, DL.sSet, DL.sExpr, DL.sNo, DL.sNil, DL.sMany, DL.setS, DL.sAsg, DL.bO_pure, DL.dVar, DL.dC, DL.dOp, DL.dCB, DL.dCall, DL.aCons, DL.aNil, DL.dB, DL.bAnd, DL.bOr, DL.bNot, DL.dAnd, DL.dOr, DL.dNot, DL.dNeg, DL.dChain, DL.dIsi, DL.dIsi2, DL.tyD, DL.Ty.isa, DL.dSlice, DL.pNone, DL.pSome, DL.dTup, DL.dOf, DL.fLst, DL.fComp, DL.fItems, DL.wipeS, DL.iSeq, DL.iR1, DL.iR2, DL.iZip, DL.xVal, DL.xNil, DL.dIf, DL.gN, DL.gT, DL.gsN, DL.gsC, DL.aStar, DL.M.pure_bind, DL.M.lift_some, DL.toB_bl, DL.toI_int, DL.fits_map, DL.fits_nil, List.map_cons, List.map_nil, List.replicate, List.cons_append, List.nil_append, Nat.sub_zero, Nat.reduceSub, List.getElem?_cons_zero, List.getElem?_cons_succ, List.length_cons, List.length_nil, Nat.zero_add, Nat.reduceAdd, if_true, List.set_cons_zero, List.set_cons_succ, Option.bind_some, DL.items_tup, DL.items_lst, Bool.false_eq_true, if_false, Bool.not_true, Bool.not_false, Bool.true_and, Bool.and_true, Bool.false_and, DL.dTop, DL.items_sq, DL.len_sq, List.length_map, DL.ix_sq0, DL.ix_sq1, DL.in_ns, DL.nin_ns, DL.eqD_ni, DL.neD_ni, DL.add_ni, DL.lt_ni, DL.le_ni, DL.tuple_sq, DL.int_bl, DL.rangeD_0, Int.toNat_natCast, DL.comp_n, DL.comp_nt, DL.comp_2, DL.comp_2t, DL.mapMM_pure, DL.filtMM_pure, DL.ifp_and, DL.ifp_or, DL.ifd_and, DL.ifd_or, DL.filtMM_yes]) (by rw [List.length_map, List.length_range]; exact Nat.le_trans (show many ≤ 1000 by omega) size1000) e2)
        exact ret_at (dTup_at (aCons_at rfl (aCons_at e5 aNil_at)) two_size)
  · exact (List.pairwise_lt_range (n := many)).sublist s2
  · obtain ⟨q1, q2, q3, q4⟩ := t2
    exact ⟨q1, q2, q3, by omega⟩
/-! ### the law's own least machine -/
abbrev kf2 (p : Nat × List Nat) : D := .tup [ni p.1, ns true p.2]
def kK2 (p : Nat × List Nat) : NestedKey := .tup [MA.numOf p.1, .tup (p.2.map MA.numOf)]
theorem kcod2 : KCod kf2 kK2 where
  to := fun a => by
    unfold kK2
    rw [toD, toDs, toDs, toDs, toD, toDs_nums]; rfl
  inj := fun {a b} h => by
    unfold kK2 at h
    rw [NestedKey.tup.injEq, List.cons.injEq, List.cons.injEq, NestedKey.tup.injEq, num_inj] at h
    exact Prod.ext h.1 (nums_one h.2.1)
  num := fun a => by unfold kK2; rw [DS.numK, DS.numKs, DS.numKs, DS.numK, numKs_nums]; rfl
  tup := fun a => rfl
  dp := fun a => by unfold kK2; rw [NestedKey.depth, NestedKey.depthAll, NestedKey.depthAll, NestedKey.depth, depth_nums]; show max 0 (max (0 + 1) 0) + 1 ≤ 8; decide
  al := fun a b => by
    have := alike_nums a.2 b.2
    unfold kK2
    simp only [NestedKey.data, NestedKey.datas, PySem.W.alike, PySem.W.alikeAll, this, MA.numOf, Bool.and_true]
  ne := fun a => by unfold kK2; rw [NestedKey.data, NestedKey.datas]; rfl
theorem cod2 : Cod 2 kf2 := (cod_nat.mono (by omega)).pair cod_nat.tup
theorem keysC_map2 (k : List Nat) : (keysC rows k).map kK2 = keysOf kfL rows k := by
  unfold keysC keysOf
  rw [List.map_map]
  refine List.map_congr_left fun s _ => ?_
  show kK2 (keyC rows k s) = kfL k (nx rows s) s
  unfold kK2 keyC kfL
  rw [List.map_map]
  rfl
theorem rnd_keysC2 (k : List Nat) : rnd kfL rows k = (keysC rows k).map fun x => (sortC kK2 (keysC rows k)).findIdx fun z => decide (z = x) := by
  unfold rnd
  rw [← keysC_map2, List.map_map]
  exact List.map_congr_left fun x _ => rk_sortC kcod2 (keysC rows k) x
theorem enumN_rows (rows : Rows) : enumN rows = (List.range rows.length).map fun i => (i, nx rows i) := by
  unfold enumN
  refine List.ext_getElem (by rw [List.length_zip, List.length_map, List.length_range, Nat.min_self]) fun i h1 h2 => ?_
  have h3 : i < rows.length := by rw [List.length_map, List.length_range] at h2; exact h2
  rw [List.getElem_zip, List.getElem_map, List.getElem_range, nx, List.getD_eq_getElem?_getD, List.getElem?_eq_getElem h3]
  rfl
theorem laps_len : ∀ k, (laps kfL rows ends k).length = rows.length
  | 0 => by unfold laps first; rw [List.length_map, List.length_range]
  | k + 1 => rnd_len
theorem enum_filter_key (line : List Nat) (p : Nat → Bool) (x : Nat) : (((enumN line).filter fun z => p z.2).map (·.1)).head? = if line.findIdx p < line.length then some (line.findIdx p) else none := by
  rw [enum_filter_num, List.head?_filter]
  by_cases h : line.findIdx p < line.length
  · rw [if_pos h, List.find?_eq_some_iff_getElem]
    refine ⟨?_, line.findIdx p, by rw [List.length_range]; exact h, List.getElem_range _, fun j hj => ?_⟩
    · rw [List.getD_eq_getElem?_getD, List.getElem?_eq_getElem h]
      exact List.findIdx_getElem (w := h)
    · rw [List.getElem_range, List.getD_eq_getElem?_getD, List.getElem?_eq_getElem (by omega)]
      have := List.not_of_lt_findIdx hj
      simpa using this
  · rw [if_neg h, List.find?_eq_none]
    intro j hj q
    have hj := List.mem_range.mp hj
    rw [List.getD_eq_getElem?_getD, List.getElem?_eq_getElem hj] at q
    exact h (List.findIdx_lt_length_of_exists ⟨_, List.getElem_mem hj, q⟩)
theorem v_law_kinds (o : Ok wd rows) (h64 : rows.length < 64) (hw : wd ≤ 1000) {τ : Tin} : ∃ s4 s5 s6 s7 s8, sFor (iR1 (dCB lenD (aCons (dVar 1) aNil))) (gN 4) (sSeq (sSetF 7 (fComp (DL.iEnum (dVar 1)) [13, 5] (gT 2 (gsC (gN 13) (gsC (gN 5) gsN))) bYes (dTup (aCons (dOp ixD (dVar 3) (dVar 13)) (aCons (dCB tupleD (aCons (dOf (fComp (iSeq (dVar 5)) [6] (gN 6) bYes (dOp ixD (dVar 3) (dVar 6)))) aNil)) aNil)))))
    (sSeq (sSet 8 (dOf (fSortSet (dVar 7))))
    (sSet 3 (dOf (fComp (iSeq (dVar 7)) [14] (gN 14) bYes (dIndex (dVar 8) (dVar 14))))))) [.d (mD true true true true rows ends), .d (nss true true rows), .d (ns true ends), .d (.lst ((first rows ends).map ni)), .un, .un, .un, .un, .un, .un, .un, .un, .un, .un, .un, .un, .un] τ =
      .nx [.d (mD true true true true rows ends), .d (nss true true rows), .d (ns true ends), .d (.lst ((laps kfL rows ends rows.length).map ni)), s4, s5, s6, s7, s8, .un, .un, .un, .un, .un, .un, .un, .un] τ := by
  obtain ⟨ρ2, τ2, q1, q2⟩ := for_nx (fi := iR1 (dCB lenD (aCons (dVar 1) aNil))) (g := gN 4) (xs := List.range rows.length) (j := fun i : Nat => D.int (i : Int)) (τ := τ) (b := sSeq (sSetF 7 (fComp (DL.iEnum (dVar 1)) [13, 5] (gT 2 (gsC (gN 13) (gsC (gN 5) gsN))) bYes (dTup (aCons (dOp ixD (dVar 3) (dVar 13)) (aCons (dCB tupleD (aCons (dOf (fComp (iSeq (dVar 5)) [6] (gN 6) bYes (dOp ixD (dVar 3) (dVar 6)))) aNil)) aNil)))))
      (sSeq (sSet 8 (dOf (fSortSet (dVar 7)))) (sSet 3 (dOf (fComp (iSeq (dVar 7)) [14] (gN 14) bYes (dIndex (dVar 8) (dVar 14)))))))
    (ρ := [.d (mD true true true true rows ends), .d (nss true true rows), .d (ns true ends), .d (.lst ((first rows ends).map ni)), .un, .un, .un, .un, .un, .un, .un, .un, .un, .un, .un, .un, .un])
    (by simp (implicitDefEqProofs := false) only [DL.sSeq, DL.seqO, DL.sIf, DL.sRet, DL.sSet, DL.sExpr, DL.sNo, DL.sNil, DL.sMany, DL.setS, DL.sAsg, DL.bO_pure, DL.dVar, DL.dC, DL.dOp, DL.dCB, DL.dCall, DL.aCons, DL.aNil, DL.dB, DL.bAnd, DL.bOr, DL.bNot, DL.dAnd, DL.dOr, DL.dNot, DL.dNeg, DL.dChain, DL.dIsi, DL.dIsi2, DL.tyD, DL.Ty.isa, DL.dSlice, DL.pNone, DL.pSome, DL.dTup, DL.dOf, DL.fLst, DL.fComp, DL.fItems, DL.wipeS, DL.iSeq, DL.iR1, DL.iR2, DL.iZip, DL.xVal, DL.xNil, DL.dIf, DL.gN, DL.gT, DL.gsN, DL.gsC, DL.aStar, DL.M.pure_bind, DL.M.lift_some, DL.toB_bl, DL.toI_int, DL.fits_map, DL.fits_nil, List.map_cons, List.map_nil, List.replicate, List.cons_append, List.nil_append, Nat.sub_zero, Nat.reduceSub, List.getElem?_cons_zero, List.getElem?_cons_succ, List.length_cons, List.length_nil, Nat.zero_add, Nat.reduceAdd, if_true, List.set_cons_zero, List.set_cons_succ, Option.bind_some, DL.items_tup, DL.items_lst, Bool.false_eq_true, if_false, Bool.not_true, Bool.not_false, Bool.true_and, Bool.and_true, Bool.false_and, DL.dTop, DL.items_sq, DL.len_sq, List.length_map, DL.ix_sq0, DL.ix_sq1, DL.in_ns, DL.nin_ns, DL.eqD_ni, DL.neD_ni, DL.add_ni, DL.lt_ni, DL.le_ni, DL.tuple_sq, DL.int_bl, DL.rangeD_0, Int.toNat_natCast, DL.comp_n, DL.comp_nt, DL.comp_2, DL.comp_2t, DL.mapMM_pure, DL.filtMM_pure, DL.ifp_and, DL.ifp_or, DL.ifd_and, DL.ifd_or, DL.filtMM_yes])
    (fun i ρ τ2 => τ2 = τ ∧ ∃ s4 s5 s6 s7 s8, ρ = [.d (mD true true true true rows ends), .d (nss true true rows), .d (ns true ends), .d (.lst ((laps kfL rows ends i).map ni)), s4, s5, s6, s7, s8, .un, .un, .un, .un, .un, .un, .un, .un])
    ⟨rfl, .un, .un, .un, .un, .un, rfl⟩ (by
      rintro i x ρ τ2 hi ⟨rfl, s4, s5, s6, s7, s8, rfl⟩
      have kl := laps_len (rows := rows) (ends := ends) i
      have ek : laps kfL rows ends (i + 1) = rnd kfL rows (laps kfL rows ends i) := rfl
      generalize laps kfL rows ends i = k at kl ek
      have hen : ∀ {u0 u2 u3 u4 u5 u6 u7 u8 u9 u10 u11 u12 u13 u14 u15 u16 : S}, DL.iEnum (dVar 1) [u0, .d (nss true true rows), u2, u3, u4, u5, u6, u7, u8, u9, u10, u11, u12, u13, u14, u15, u16] = M.pure ((enumN rows).map fun p => D.tup [ni p.1, ns true p.2]) := fun {u0 u2 u3 u4 u5 u6 u7 u8 u9 u10 u11 u12 u13 u14 u15 u16} => enum_sq true _ _ (ns true) rows rfl
      have hk2 : ∀ i, i < rows.length → ixD (.lst (k.map ni)) (ni i) = some (ni (k.getD i 0)) := fun i hi => ix_ns (b := false) (by rw [kl]; exact hi)
      have hkl : (keysC rows k).length = rows.length := by unfold keysC; rw [List.length_map, List.length_range]
      have hrow : fComp (DL.iEnum (dVar 1)) [13, 5] (gT 2 (gsC (gN 13) (gsC (gN 5) gsN))) bYes (dTup (aCons (dOp ixD (dVar 3) (dVar 13)) (aCons (dCB tupleD (aCons (dOf (fComp (iSeq (dVar 5)) [6] (gN 6) bYes (dOp ixD (dVar 3) (dVar 6)))) aNil)) aNil))) [.d (mD true true true true rows ends), .d (nss true true rows), .d (ns true ends), .d (.lst (k.map ni)), .d (.int (x : Int)), s5, s6, s7, s8, .un, .un, .un, .un, .un, .un, .un, .un] = M.pure ((keysC rows k).map kf2) := by
        refine fComp_of hen (by rw [List.length_map, enumN_length]; exact Nat.le_trans (by omega) size1000) ?_
        rw [comp_2]
        have e2 : (keysC rows k).map kf2 = (enumN rows).map fun p => kf2 (k.getD p.1 0, p.2.map fun g => k.getD g 0) := by
          rw [enumN_rows]
          unfold keysC
          rw [List.map_map, List.map_map]
          rfl
        rw [e2]
        refine mapMM_of fun p hp => ?_
        have hp2 := enumN_mem hp
        have hpl : p.1 < rows.length := (List.getElem?_eq_some_iff.mp hp2).1
        have hpe : nx rows p.1 = p.2 := by rw [nx, List.getD_eq_getElem?_getD, hp2]; rfl
        have hin : mapMM (fun y => M.lift (ixD (.lst (k.map ni)) (ni y))) p.2 = M.pure (p.2.map fun g => ni (k.getD g 0)) := mapMM_of fun g hg => by
          rw [hk2 g (o.nx_lt hpl g (by rw [hpe]; exact hg))]
          rfl
        have hfit : fits (p.2.map ni) = true := fits_map (by rw [← hpe, o.nx_len hpl]; exact Nat.le_trans hw size1000)
        have hf2 : ∀ x y : D, fits [x, y] = true := fun _ _ => rfl
        simp (implicitDefEqProofs := false) only [DL.sSeq, DL.seqO, DL.sIf, DL.sRet, DL.sSet, DL.sExpr, DL.sNo, DL.sNil, DL.sMany, DL.setS, DL.sAsg, DL.bO_pure, DL.dVar, DL.dC, DL.dOp, DL.dCB, DL.dCall, DL.aCons, DL.aNil, DL.dB, DL.bAnd, DL.bOr, DL.bNot, DL.dAnd, DL.dOr, DL.dNot, DL.dNeg, DL.dChain, DL.dIsi, DL.dIsi2, DL.tyD, DL.Ty.isa, DL.dSlice, DL.pNone, DL.pSome, DL.dTup, DL.dOf, DL.fLst, DL.fComp, DL.fItems, DL.wipeS, DL.iSeq, DL.iR1, DL.iR2, DL.iZip, DL.xVal, DL.xNil, DL.dIf, DL.gN, DL.gT, DL.gsN, DL.gsC, DL.aStar, DL.M.pure_bind, DL.M.lift_some, DL.toB_bl, DL.toI_int, DL.fits_map, DL.fits_nil, List.map_cons, List.map_nil, List.replicate, List.cons_append, List.nil_append, Nat.sub_zero, Nat.reduceSub, List.getElem?_cons_zero, List.getElem?_cons_succ, List.length_cons, List.length_nil, Nat.zero_add, Nat.reduceAdd, if_true, List.set_cons_zero, List.set_cons_succ, Option.bind_some, DL.items_tup, DL.items_lst, Bool.false_eq_true, if_false, Bool.not_true, Bool.not_false, Bool.true_and, Bool.and_true, Bool.false_and, DL.dTop, DL.items_sq, DL.len_sq, List.length_map, DL.ix_sq0, DL.ix_sq1, DL.in_ns, DL.nin_ns, DL.eqD_ni, DL.neD_ni, DL.add_ni, DL.lt_ni, DL.le_ni, DL.tuple_sq, DL.int_bl, DL.rangeD_0, Int.toNat_natCast, DL.comp_n, DL.comp_nt, DL.comp_2, DL.comp_2t, DL.mapMM_pure, DL.filtMM_pure, DL.ifp_and, DL.ifp_or, DL.ifd_and, DL.ifd_or, DL.filtMM_yes, hk2 p.1 hpl, hfit, hin, tupleD, hf2]
        show M.pure (D.tup [_, D.tup _]) = M.pure (D.tup [_, D.tup (((p.2.map fun g => k.getD g 0)).map ni)])
        rw [List.map_map]
        rfl
      have hso : ∀ {u0 u1 u2 u3 u4 u5 u6 u8 u9 u10 u11 u12 u13 u14 u15 u16 : S}, fSortSet (dVar 7) [u0, u1, u2, u3, u4, u5, u6, .d (.lst ((keysC rows k).map kf2)), u8, u9, u10, u11, u12, u13, u14, u15, u16] = M.pure ((sortC kK2 (keysC rows k)).map kf2) := fun {u0 u1 u2 u3 u4 u5 u6 u8 u9 u10 u11 u12 u13 u14 u15 u16} => fSortSet_cod kcod2 (b := false) rfl (by have := onceC_len (keysC rows k); omega)
      have hix : fComp (iSeq (dVar 7)) [14] (gN 14) bYes (dIndex (dVar 8) (dVar 14)) [.d (mD true true true true rows ends), .d (nss true true rows), .d (ns true ends), .d (.lst (k.map ni)), .d (.int (x : Int)), s5, s6, .d (.lst ((keysC rows k).map kf2)), .d (.lst ((sortC kK2 (keysC rows k)).map kf2)), .un, .un, .un, .un, .un, .un, .un, .un] = M.pure ((rnd kfL rows k).map ni) := by
        refine fComp_of (ds := (keysC rows k).map kf2) rfl (by rw [List.length_map, hkl]; exact Nat.le_trans (by omega) size1000) ?_
        rw [comp_n, rnd_keysC2, List.map_map]
        exact mapMM_of fun x hx => dIndex_cod cod2 (by omega) (xs := sortC kK2 (keysC rows k)) (a := x) rfl rfl (findIdx?_mem (mem_sortC.mpr hx))
      refine ⟨_, [.d (mD true true true true rows ends), .d (nss true true rows), .d (ns true ends), .d (.lst ((rnd kfL rows k).map ni)), .d (.int (x : Int)), s5, s6, .d (.lst ((keysC rows k).map kf2)), .d (.lst ((sortC kK2 (keysC rows k)).map kf2)), .un, .un, .un, .un, .un, .un, .un, .un], τ2, rfl, ?_, rfl, _, _, _, _, _, by rw [ek]⟩
      refine st_setF hrow ?_
      refine st_set (d := .lst ((sortC kK2 (keysC rows k)).map kf2)) (by simp (implicitDefEqProofs := false) only [DL.dOf, DL.M.pure_bind, List.set_cons_zero, List.set_cons_succ, hso]) ?_
      simp (implicitDefEqProofs := false) only [DL.sSet, DL.dOf, List.set_cons_zero, List.set_cons_succ, hix, DL.M.pure_bind, DL.bO_pure])
  rw [List.length_range] at q2
  obtain ⟨rfl, s4, s5, s6, s7, s8, rfl⟩ := q2
  exact ⟨s4, s5, s6, s7, s8, q1⟩
theorem flat_nis : ∀ xs : List Nat, flatDs (xs.map ni) = true
  | [] => rfl
  | x :: xs => by rw [List.map_cons, flatDs, flat_nis xs]; rfl
theorem lst_nil (xs : List Nat) : eqD (.lst (xs.map ni)) (.lst []) = some (.bl (decide (xs = []))) := (cod_nat.lst).eqD (by omega) xs []
theorem lst_nnil (xs : List Nat) : neD (.lst (xs.map ni)) (.lst []) = some (.bl (!decide (xs = []))) := (cod_nat.lst).neD (by omega) xs []
theorem v_law_least_of (o : Ok wd rows) {N : Nat} (hN : rows.length ≤ N) (h64 : rows.length < 64) (hw : wd ≤ 1000) : m_law_least_of [mD true true true true rows ends] = M.pure (mD true true true true (leastR N rows ends) (leastE N rows ends)) := by
  have hany := least_any (ends := ends) o hN (k0 := fun s => (laps kfL rows ends rows.length).getD s 0) fun p q hp hq => laps_all tells_L o hp hq
  rw [hany.1, hany.2]
  have kl := laps_len (rows := rows) (ends := ends) rows.length
  have fitR : fits ((List.range rows.length).map fun i : Nat => D.int (i : Int)) = true := fits_map (by rw [List.length_range]; exact Nat.le_trans (by omega) size1000)
  refine runG_rt rfl fun τ => ?_
  refine st_asg (d := mD true true true true rows ends) (ρ1 := [.d (mD true true true true rows ends), .d (nss true true rows), .d (ns true ends), .un, .un, .un, .un, .un, .un, .un, .un, .un, .un, .un, .un, .un, .un]) rfl rfl ?_
  refine st_set (d := .lst ((first rows ends).map ni)) ?_ ?_
  · simp (implicitDefEqProofs := false) only [DL.sSeq, DL.seqO, DL.sIf, DL.sRet, DL.sSet, DL.sExpr, DL.sNo, DL.sNil, DL.sMany, DL.setS, DL.sAsg, DL.bO_pure, DL.dVar, DL.dC, DL.dOp, DL.dCB, DL.dCall, DL.aCons, DL.aNil, DL.dB, DL.bAnd, DL.bOr, DL.bNot, DL.dAnd, DL.dOr, DL.dNot, DL.dNeg, DL.dChain, DL.dIsi, DL.dIsi2, DL.tyD, DL.Ty.isa, DL.dSlice, DL.pNone, DL.pSome, DL.dTup, DL.dOf, DL.fLst, DL.fComp, DL.fItems, DL.wipeS, DL.iSeq, DL.iR1, DL.iR2, DL.iZip, DL.xVal, DL.xNil, DL.dIf, DL.gN, DL.gT, DL.gsN, DL.gsC, DL.aStar, DL.M.pure_bind, DL.M.lift_some, DL.toB_bl, DL.toI_int, DL.fits_map, DL.fits_nil, List.map_cons, List.map_nil, List.replicate, List.cons_append, List.nil_append, Nat.sub_zero, Nat.reduceSub, List.getElem?_cons_zero, List.getElem?_cons_succ, List.length_cons, List.length_nil, Nat.zero_add, Nat.reduceAdd, if_true, List.set_cons_zero, List.set_cons_succ, Option.bind_some, DL.items_tup, DL.items_lst, Bool.false_eq_true, if_false, Bool.not_true, Bool.not_false, Bool.true_and, Bool.and_true, Bool.false_and, DL.dTop, DL.items_sq, DL.len_sq, List.length_map, DL.ix_sq0, DL.ix_sq1, DL.in_ns, DL.nin_ns, DL.eqD_ni, DL.neD_ni, DL.add_ni, DL.lt_ni, DL.le_ni, DL.tuple_sq, DL.int_bl, DL.rangeD_0, Int.toNat_natCast, DL.comp_n, DL.comp_nt, DL.comp_2, DL.comp_2t, DL.mapMM_pure, DL.filtMM_pure, DL.ifp_and, DL.ifp_or, DL.ifd_and, DL.ifd_or, DL.filtMM_yes, fitR, decide_eq_true_eq]
    unfold first
    rw [List.map_map]
    rfl
  obtain ⟨s4, s5, s6, s7, s8, hk⟩ := v_law_kinds (ends := ends) o h64 hw (τ := τ)
  refine st_do hk ?_
  generalize laps kfL rows ends rows.length = k at kl
  let key : Nat → Nat := fun s => k.getD s 0
  let LS : Nat → List Nat := fun t => bfs key (nx rows) t 0 [0]
  let LINE := LS rows.length
  let Fd : Nat → List Nat := fun s => (nx rows s).map (idx key LINE)
  obtain ⟨L, _, _⟩ := line_of o (key := key) (s := 0) (f := rows.length) o.pos (Nat.le_refl _)
  have L : Line rows key LINE := L
  have lenL : LINE.length ≤ rows.length := nodup_le (knd_nodup L.nd) L.lt
  have LS_succ : ∀ t, LS (t + 1) = if t < (LS t).length then grow key (LS t) (nx rows ((LS t).getD t 0)) else LS t := fun t => by
    have := bfs_succ (key := key) (next := nx rows) t 0 [0] (Nat.zero_le _)
    rw [Nat.zero_add] at this
    exact this
  have LS_pre : ∀ t, LS t <+: LS (t + 1) := fun t => by
    rw [LS_succ]
    split
    · exact grow_pre _ _
    · exact List.prefix_refl _
  have LS_all : ∀ t, t ≤ rows.length → LS t <+: LINE := fun t ht => by
    have : ∀ d, LS t <+: LS (t + d) := fun d => by
      induction d with
      | zero => exact List.prefix_refl _
      | succ d ih => exact ih.trans (LS_pre (t + d))
    have := this (rows.length - t)
    rwa [show t + (rows.length - t) = rows.length by omega] at this
  have hk2 : ∀ i, i < rows.length → ixD (.lst (k.map ni)) (ni i) = some (ni (key i)) := fun i hi => ix_ns (b := false) (by rw [kl]; exact hi)
  refine st_do (ρ1 := [.d (mD true true true true rows ends), .d (nss true true rows), .d (ns true ends), .d (.lst (k.map ni)), s4, s5, s6, s7, s8, .own ([0].map ni), .own [], .un, .un, .un, .un, .un, .un]) (τ' := τ) (by simp (implicitDefEqProofs := false) only [DL.sSeq, DL.seqO, DL.sIf, DL.sRet, DL.sSet, DL.sExpr, DL.sNo, DL.sNil, DL.sMany, DL.setS, DL.sAsg, DL.bO_pure, DL.dVar, DL.dC, DL.dOp, DL.dCB, DL.dCall, DL.aCons, DL.aNil, DL.dB, DL.bAnd, DL.bOr, DL.bNot, DL.dAnd, DL.dOr, DL.dNot, DL.dNeg, DL.dChain, DL.dIsi, DL.dIsi2, DL.tyD, DL.Ty.isa, DL.dSlice, DL.pNone, DL.pSome, DL.dTup, DL.dOf, DL.fLst, DL.fComp, DL.fItems, DL.wipeS, DL.iSeq, DL.iR1, DL.iR2, DL.iZip, DL.xVal, DL.xNil, DL.dIf, DL.gN, DL.gT, DL.gsN, DL.gsC, DL.aStar, DL.M.pure_bind, DL.M.lift_some, DL.toB_bl, DL.toI_int, DL.fits_map, DL.fits_nil, List.map_cons, List.map_nil, List.replicate, List.cons_append, List.nil_append, Nat.sub_zero, Nat.reduceSub, List.getElem?_cons_zero, List.getElem?_cons_succ, List.length_cons, List.length_nil, Nat.zero_add, Nat.reduceAdd, if_true, List.set_cons_zero, List.set_cons_succ, Option.bind_some, DL.items_tup, DL.items_lst, Bool.false_eq_true, if_false, Bool.not_true, Bool.not_false, Bool.true_and, Bool.and_true, Bool.false_and, DL.dTop, DL.xOwn]; rfl) ?_
  refine st_for (xs := List.range rows.length) (j := fun i : Nat => D.int (i : Int)) (by simp (implicitDefEqProofs := false) only [DL.sSeq, DL.seqO, DL.sIf, DL.sRet, DL.sSet, DL.sExpr, DL.sNo, DL.sNil, DL.sMany, DL.setS, DL.sAsg, DL.bO_pure, DL.dVar, DL.dC, DL.dOp, DL.dCB, DL.dCall, DL.aCons, DL.aNil, DL.dB, DL.bAnd, DL.bOr, DL.bNot, DL.dAnd, DL.dOr, DL.dNot, DL.dNeg, DL.dChain, DL.dIsi, DL.dIsi2, DL.tyD, DL.Ty.isa, DL.dSlice, DL.pNone, DL.pSome, DL.dTup, DL.dOf, DL.fLst, DL.fComp, DL.fItems, DL.wipeS, DL.iSeq, DL.iR1, DL.iR2, DL.iZip, DL.xVal, DL.xNil, DL.dIf, DL.gN, DL.gT, DL.gsN, DL.gsC, DL.aStar, DL.M.pure_bind, DL.M.lift_some, DL.toB_bl, DL.toI_int, DL.fits_map, DL.fits_nil, List.map_cons, List.map_nil, List.replicate, List.cons_append, List.nil_append, Nat.sub_zero, Nat.reduceSub, List.getElem?_cons_zero, List.getElem?_cons_succ, List.length_cons, List.length_nil, Nat.zero_add, Nat.reduceAdd, if_true, List.set_cons_zero, List.set_cons_succ, Option.bind_some, DL.items_tup, DL.items_lst, Bool.false_eq_true, if_false, Bool.not_true, Bool.not_false, Bool.true_and, Bool.and_true, Bool.false_and, DL.dTop, DL.items_sq, DL.len_sq, List.length_map, DL.ix_sq0, DL.ix_sq1, DL.in_ns, DL.nin_ns, DL.eqD_ni, DL.neD_ni, DL.add_ni, DL.lt_ni, DL.le_ni, DL.tuple_sq, DL.int_bl, DL.rangeD_0, Int.toNat_natCast, DL.comp_n, DL.comp_nt, DL.comp_2, DL.comp_2t, DL.mapMM_pure, DL.filtMM_pure, DL.ifp_and, DL.ifp_or, DL.ifd_and, DL.ifd_or, DL.filtMM_yes])
    (fun t ρ τ2 => τ2 = τ ∧ t ≤ rows.length ∧ ∃ s4 s5 s6 s7 s8 s11 s12 s13 s14 s15 s16, ρ = [.d (mD true true true true rows ends), .d (nss true true rows), .d (ns true ends), .d (.lst (k.map ni)), s4, s5, s6, s7, s8, .own ((LS t).map ni), .own ((((LS t).take t).map Fd).map (ns true)), s11, s12, s13, s14, s15, s16])
    ⟨rfl, Nat.zero_le _, s4, s5, s6, s7, s8, .un, .un, .un, .un, .un, .un, rfl⟩ ?_ ?_
  · rintro t x ρ τ2 hi ⟨rfl, htl, s4, s5, s6, s7, s8, s11, s12, s13, s14, s15, s16, rfl⟩
    have hx : x = t := by
      have := (List.getElem?_eq_some_iff.mp hi).2
      rw [List.getElem_range] at this
      exact this.symm
    subst hx
    have ht : x < rows.length := by
      have := (List.getElem?_eq_some_iff.mp hi).1
      rwa [List.length_range] at this
    have hpreA := LS_all x (by omega)
    have hl : ltD (ni x) (ni (LS x).length) = some (.bl (decide (x < (LS x).length))) := lt_ni _ _
    have hlen : lenD [.lst ((LS x).map ni)] = some (ni (LS x).length) := len_sq false ((LS x).map ni) |>.trans (by rw [List.length_map])
    by_cases h : x < (LS x).length
    · have hs : (LS x).getD x 0 < rows.length := L.lt _ (hpreA.subset (getD_mem h))
      have e1 : ixD (.lst ((LS x).map ni)) (ni x) = some (ni ((LS x).getD x 0)) := ix_ns (b := false) h
      have e2 := ix_nss (b := true) (c := true) hs
      have eS : LS (x + 1) = grow key (LS x) (nx rows ((LS x).getD x 0)) := by rw [LS_succ, if_pos h]
      have hpreB := LS_all (x + 1) (by omega)
      generalize hss : (LS x).getD x 0 = s at hs e1 e2 eS
      -- the goals, one by one
      obtain ⟨ρ2, τ3, q1, q2⟩ := for_nx (fi := iSeq (dOp ixD (dVar 1) (dOp ixD (dTop 9) (dVar 11)))) (g := gN 6) (xs := nx rows s) (j := ni) (τ := τ2)
        (b := sSeq (sSetF 12 (fThaw 9 (fComp (DL.iEnum (dVar 9)) [15, 16] (gT 2 (gsC (gN 15) (gsC (gN 16) gsN))) (dB (dOp eqD (dOp ixD (dVar 3) (dVar 16)) (dOp ixD (dVar 3) (dVar 6)))) (dVar 15))))
          (sSeq (sIf (dB (dOp eqD (dVar 12) (dOf (fLst aNil)))) (ownAt 9 (sApp 9 (dVar 6))) sNil)
          (ownAt 5 (sApp 5 (dIf (dB (dOp neD (dVar 12) (dOf (fLst aNil)))) (dOp ixD (dVar 12) (dC (.int 0))) (dOp subD (dCB lenD (aCons (dTop 9) aNil)) (dC (.int 1))))))))
        (ρ := [.d (mD true true true true rows ends), .d (nss true true rows), .d (ns true ends), .d (.lst (k.map ni)), s4, .own [], s6, s7, s8, .own ((LS x).map ni), .own ((((LS x).take x).map Fd).map (ns true)), .d (.int (x : Int)), s12, s13, s14, s15, s16])
        (by simp (implicitDefEqProofs := false) only [DL.sSeq, DL.seqO, DL.sIf, DL.sRet, DL.sSet, DL.sExpr, DL.sNo, DL.sNil, DL.sMany, DL.setS, DL.sAsg, DL.bO_pure, DL.dVar, DL.dC, DL.dOp, DL.dCB, DL.dCall, DL.aCons, DL.aNil, DL.dB, DL.bAnd, DL.bOr, DL.bNot, DL.dAnd, DL.dOr, DL.dNot, DL.dNeg, DL.dChain, DL.dIsi, DL.dIsi2, DL.tyD, DL.Ty.isa, DL.dSlice, DL.pNone, DL.pSome, DL.dTup, DL.dOf, DL.fLst, DL.fComp, DL.fItems, DL.wipeS, DL.iSeq, DL.iR1, DL.iR2, DL.iZip, DL.xVal, DL.xNil, DL.dIf, DL.gN, DL.gT, DL.gsN, DL.gsC, DL.aStar, DL.M.pure_bind, DL.M.lift_some, DL.toB_bl, DL.toI_int, DL.fits_map, DL.fits_nil, List.map_cons, List.map_nil, List.replicate, List.cons_append, List.nil_append, Nat.sub_zero, Nat.reduceSub, List.getElem?_cons_zero, List.getElem?_cons_succ, List.length_cons, List.length_nil, Nat.zero_add, Nat.reduceAdd, if_true, List.set_cons_zero, List.set_cons_succ, Option.bind_some, DL.items_tup, DL.items_lst, Bool.false_eq_true, if_false, Bool.not_true, Bool.not_false, Bool.true_and, Bool.and_true, Bool.false_and, DL.dTop, DL.items_sq, DL.len_sq, List.length_map, DL.ix_sq0, DL.ix_sq1, DL.in_ns, DL.nin_ns, DL.eqD_ni, DL.neD_ni, DL.add_ni, DL.lt_ni, DL.le_ni, DL.tuple_sq, DL.int_bl, DL.rangeD_0, Int.toNat_natCast, DL.comp_n, DL.comp_nt, DL.comp_2, DL.comp_2t, DL.mapMM_pure, DL.filtMM_pure, DL.ifp_and, DL.ifp_or, DL.ifd_and, DL.ifd_or, DL.filtMM_yes, e1, e2])
        (fun i ρ τ3 => τ3 = τ2 ∧ i ≤ (nx rows s).length ∧ ∃ s6 s12 s13 s14 s15 s16, ρ = [.d (mD true true true true rows ends), .d (nss true true rows), .d (ns true ends), .d (.lst (k.map ni)), s4, .own ((((nx rows s).take i).map (idx key LINE)).map ni), s6, s7, s8, .own ((grow key (LS x) ((nx rows s).take i)).map ni), .own ((((LS x).take x).map Fd).map (ns true)), .d (.int (x : Int)), s12, s13, s14, s15, s16])
        ⟨rfl, Nat.zero_le _, s6, s12, s13, s14, s15, s16, rfl⟩ (by
          rintro i g ρ τ3 hg ⟨rfl, hil, t6, t12, t13, t14, t15, t16, rfl⟩
          have hgl : i < (nx rows s).length := (List.getElem?_eq_some_iff.mp hg).1
          have hgr : g < rows.length := o.nx_lt hs g (List.mem_of_getElem? hg)
          have tk : (nx rows s).take (i + 1) = (nx rows s).take i ++ [g] := by rw [List.take_succ, hg]; rfl
          have gs : grow key (LS x) ((nx rows s).take (i + 1)) = add key (grow key (LS x) ((nx rows s).take i)) g := by rw [tk]; unfold grow; rw [List.foldl_append]; rfl
          have hpi : grow key (LS x) ((nx rows s).take (i + 1)) <+: LINE := by
            refine List.IsPrefix.trans ?_ hpreB
            rw [eS]
            conv => rhs; rw [← List.take_append_drop (i + 1) (nx rows s)]
            unfold grow
            rw [List.foldl_append]
            exact grow_pre _ _
          rw [gs] at hpi ⊢
          have hp0 : grow key (LS x) ((nx rows s).take i) <+: LINE := (add_pre _ g).trans hpi
          have hex : ∃ y ∈ add key (grow key (LS x) ((nx rows s).take i)) g, key y = key g := add_mem _ _
          have hidx := idx_pre hpi hex
          generalize grow key (LS x) ((nx rows s).take i) = line at hpi hp0 hex hidx ⊢
          have hll : line.length ≤ rows.length := Nat.le_trans hp0.length_le lenL
          have hlr : ∀ y ∈ line, y < rows.length := fun y hy => L.lt y (hp0.subset hy)
          have hlen : lenD [.lst (line.map ni)] = some (ni line.length) := len_sq false (line.map ni) |>.trans (by rw [List.length_map])
          have hen : ∀ {u0 u1 u2 u3 u4 u5 u6 u7 u8 u10 u11 u12 u13 u14 u15 u16 : S}, DL.iEnum (dVar 9) [u0, u1, u2, u3, u4, u5, u6, u7, u8, .d (.lst (line.map ni)), u10, u11, u12, u13, u14, u15, u16] = M.pure ((enumN line).map fun p => D.tup [ni p.1, ni p.2]) := fun {u0 u1 u2 u3 u4 u5 u6 u7 u8 u10 u11 u12 u13 u14 u15 u16} => enum_ns (b := false) _ rfl
          have hsm : fThaw 9 (fComp (DL.iEnum (dVar 9)) [15, 16] (gT 2 (gsC (gN 15) (gsC (gN 16) gsN))) (dB (dOp eqD (dOp ixD (dVar 3) (dVar 16)) (dOp ixD (dVar 3) (dVar 6)))) (dVar 15)) [.d (mD true true true true rows ends), .d (nss true true rows), .d (ns true ends), .d (.lst (k.map ni)), s4, .own ((((nx rows s).take i).map (idx key LINE)).map ni), .d (ni g), s7, s8, .own (line.map ni), .own ((((LS x).take x).map Fd).map (ns true)), .d (.int (x : Int)), t12, t13, t14, t15, t16] =
              M.pure ((((enumN line).filter fun p => decide (key p.2 = key g)).map (·.1)).map ni) := by
            have hc : fComp (DL.iEnum (dVar 9)) [15, 16] (gT 2 (gsC (gN 15) (gsC (gN 16) gsN))) (dB (dOp eqD (dOp ixD (dVar 3) (dVar 16)) (dOp ixD (dVar 3) (dVar 6)))) (dVar 15) [.d (mD true true true true rows ends), .d (nss true true rows), .d (ns true ends), .d (.lst (k.map ni)), s4, .own ((((nx rows s).take i).map (idx key LINE)).map ni), .d (ni g), s7, s8, .d (.lst (line.map ni)), .own ((((LS x).take x).map Fd).map (ns true)), .d (.int (x : Int)), t12, t13, t14, t15, t16] =
                M.pure ((((enumN line).filter fun p => decide (key p.2 = key g)).map (·.1)).map ni) := by
              refine fComp_of hen (by rw [List.length_map, enumN_length]; exact Nat.le_trans (by omega) size1000) ?_
              rw [comp_2t]
              refine (filtMM_of (p := fun p : Nat × Nat => decide (key p.2 = key g)) (h := fun p : Nat × Nat => ni p.1) (fun p hp => ?_) fun p _ _ => rfl).trans (by rw [List.map_map]; rfl)
              have hp2 := List.mem_of_getElem? (enumN_mem hp)
              simp (implicitDefEqProofs := false) only [DL.sSeq, DL.seqO, DL.sIf, DL.sRet, DL.sSet, DL.sExpr, DL.sNo, DL.sNil, DL.sMany, DL.setS, DL.sAsg, DL.bO_pure, DL.dVar, DL.dC, DL.dOp, DL.dCB, DL.dCall, DL.aCons, DL.aNil, DL.dB, DL.bAnd, DL.bOr, DL.bNot, DL.dAnd, DL.dOr, DL.dNot, DL.dNeg, DL.dChain, DL.dIsi, DL.dIsi2, DL.tyD, DL.Ty.isa, DL.dSlice, DL.pNone, DL.pSome, DL.dTup, DL.dOf, DL.fLst, DL.fComp, DL.fItems, DL.wipeS, DL.iSeq, DL.iR1, DL.iR2, DL.iZip, DL.xVal, DL.xNil, DL.dIf, DL.gN, DL.gT, DL.gsN, DL.gsC, DL.aStar, DL.M.pure_bind, DL.M.lift_some, DL.toB_bl, DL.toI_int, DL.fits_map, DL.fits_nil, List.map_cons, List.map_nil, List.replicate, List.cons_append, List.nil_append, Nat.sub_zero, Nat.reduceSub, List.getElem?_cons_zero, List.getElem?_cons_succ, List.length_cons, List.length_nil, Nat.zero_add, Nat.reduceAdd, if_true, List.set_cons_zero, List.set_cons_succ, Option.bind_some, DL.items_tup, DL.items_lst, Bool.false_eq_true, if_false, Bool.not_true, Bool.not_false, Bool.true_and, Bool.and_true, Bool.false_and, DL.dTop, hk2 p.2 (hlr _ hp2), hk2 g hgr, eqD_ni]
            unfold fThaw
            show M.bind (fComp _ _ _ _ _ [_, _, _, _, _, _, _, _, _, .d (.lst (line.map ni)), _, _, _, _, _, _, _]) flatsM = _
            rw [hc, M.pure_bind]
            unfold flatsM
            rw [if_pos (flat_nis _)]
          have hhd := enum_filter_key line (fun y => decide (key y = key g)) g
          have hfi : (line.findIdx fun y => decide (key y = key g)) = idx key line g := rfl
          rw [hfi] at hhd
          generalize ((enumN line).filter fun p => decide (key p.2 = key g)).map (·.1) = sm at hsm hhd
          have zr : ((((nx rows s).take i).map (idx key LINE)).map ni).length < sizeLine := by
            rw [List.length_map, List.length_map, List.length_take, o.nx_len hs]
            exact Nat.lt_of_lt_of_le (show min i wd < 1000000 by omega) size2000
          have zl : (line.map ni).length < sizeLine := by rw [List.length_map]; exact Nat.lt_of_lt_of_le (show _ < 1000000 by omega) size2000
          refine ⟨_, [.d (mD true true true true rows ends), .d (nss true true rows), .d (ns true ends), .d (.lst (k.map ni)), s4, .own ((((nx rows s).take (i + 1)).map (idx key LINE)).map ni), .d (ni g), s7, s8, .own ((add key line g).map ni), .own ((((LS x).take x).map Fd).map (ns true)), .d (.int (x : Int)), .d (.lst (sm.map ni)), t13, t14, t15, t16], τ3, rfl, ?_, rfl, hgl, _, _, _, _, _, _, rfl⟩
          refine st_setF hsm ?_
          rw [tk, List.map_append, List.map_append]
          by_cases hn : sm = []
          · have hno : ¬ idx key line g < line.length := fun z => by rw [if_pos z, hn] at hhd; cases hhd
            have hadd : add key line g = line ++ [g] := by
              unfold add
              rw [if_neg]
              intro z
              obtain ⟨y, hy, e⟩ := List.any_eq_true.mp z
              exact hno (idx_lt ⟨y, hy, eq_of_beq e⟩)
            have hi2 : idx key (line ++ [g]) g = line.length := by
              rw [← hadd]
              have h1 := idx_lt hex
              rw [hadd, List.length_append, List.length_singleton] at h1
              rw [hadd]
              unfold idx at hno h1 ⊢
              rw [List.findIdx_append] at h1 ⊢
              split
              · rename_i q; exact absurd q hno
              · simp
            rw [hadd] at hidx
            have hid : idx key LINE g = line.length := by rw [hidx, hi2]
            have h1 := lst_nil sm
            have h2 := lst_nnil sm
            rw [decide_eq_true hn] at h1 h2
            have hlen2 : lenD [.lst (line.map ni ++ [ni g])] = some (ni (line.length + 1)) := by
              show some (D.int ((line.map ni ++ [ni g]).length : Nat)) = _
              rw [List.length_append, List.length_map]
              rfl
            have hsub : subD (ni (line.length + 1)) (.int 1) = some (ni line.length) := (sub1_ni (by omega)).trans (by rw [Nat.add_sub_cancel])
            rw [hadd, List.map_append]
            simp (implicitDefEqProofs := false) only [DL.sSeq, DL.seqO, DL.sIf, DL.sRet, DL.sSet, DL.sExpr, DL.sNo, DL.sNil, DL.sMany, DL.setS, DL.sAsg, DL.bO_pure, DL.dVar, DL.dC, DL.dOp, DL.dCB, DL.dCall, DL.aCons, DL.aNil, DL.dB, DL.bAnd, DL.bOr, DL.bNot, DL.dAnd, DL.dOr, DL.dNot, DL.dNeg, DL.dChain, DL.dIsi, DL.dIsi2, DL.tyD, DL.Ty.isa, DL.dSlice, DL.pNone, DL.pSome, DL.dTup, DL.dOf, DL.fLst, DL.fComp, DL.fItems, DL.wipeS, DL.iSeq, DL.iR1, DL.iR2, DL.iZip, DL.xVal, DL.xNil, DL.dIf, DL.gN, DL.gT, DL.gsN, DL.gsC, DL.aStar, DL.M.pure_bind, DL.M.lift_some, DL.toB_bl, DL.toI_int, DL.fits_map, DL.fits_nil, List.map_cons, List.map_nil, List.replicate, List.cons_append, List.nil_append, Nat.sub_zero, Nat.reduceSub, List.getElem?_cons_zero, List.getElem?_cons_succ, List.length_cons, List.length_nil, Nat.zero_add, Nat.reduceAdd, if_true, List.set_cons_zero, List.set_cons_succ, Option.bind_some, DL.items_tup, DL.items_lst, Bool.false_eq_true, if_false, Bool.not_true, Bool.not_false, Bool.true_and, Bool.and_true, Bool.false_and, DL.dTop, ownAt, sApp, upOwn, zl, zr, h1, h2, hlen2, hsub, hid]
          · have hyes : idx key line g < line.length := by
              rcases Nat.lt_or_ge (idx key line g) line.length with z | z
              · exact z
              · rw [if_neg (by omega)] at hhd
                exact absurd (List.head?_eq_none_iff.mp hhd) hn
            rw [if_pos hyes] at hhd
            have hadd : add key line g = line := by
              unfold add
              rw [if_pos]
              refine List.any_eq_true.mpr ⟨line[idx key line g], List.getElem_mem hyes, ?_⟩
              exact List.findIdx_getElem (w := hyes)
            rw [hadd] at hidx
            have h1 := lst_nil sm
            have h2 := lst_nnil sm
            rw [decide_eq_false hn] at h1 h2
            have h3 : ixD (.lst (sm.map ni)) (.int 0) = some (ni (idx key line g)) := by
              cases sm with
              | nil => exact absurd rfl hn
              | cons y ys =>
                cases hhd
                exact ix_sq0 false _ _
            rw [hadd]
            simp (implicitDefEqProofs := false) only [DL.sSeq, DL.seqO, DL.sIf, DL.sRet, DL.sSet, DL.sExpr, DL.sNo, DL.sNil, DL.sMany, DL.setS, DL.sAsg, DL.bO_pure, DL.dVar, DL.dC, DL.dOp, DL.dCB, DL.dCall, DL.aCons, DL.aNil, DL.dB, DL.bAnd, DL.bOr, DL.bNot, DL.dAnd, DL.dOr, DL.dNot, DL.dNeg, DL.dChain, DL.dIsi, DL.dIsi2, DL.tyD, DL.Ty.isa, DL.dSlice, DL.pNone, DL.pSome, DL.dTup, DL.dOf, DL.fLst, DL.fComp, DL.fItems, DL.wipeS, DL.iSeq, DL.iR1, DL.iR2, DL.iZip, DL.xVal, DL.xNil, DL.dIf, DL.gN, DL.gT, DL.gsN, DL.gsC, DL.aStar, DL.M.pure_bind, DL.M.lift_some, DL.toB_bl, DL.toI_int, DL.fits_map, DL.fits_nil, List.map_cons, List.map_nil, List.replicate, List.cons_append, List.nil_append, Nat.sub_zero, Nat.reduceSub, List.getElem?_cons_zero, List.getElem?_cons_succ, List.length_cons, List.length_nil, Nat.zero_add, Nat.reduceAdd, if_true, List.set_cons_zero, List.set_cons_succ, Option.bind_some, DL.items_tup, DL.items_lst, Bool.false_eq_true, if_false, Bool.not_true, Bool.not_false, Bool.true_and, Bool.and_true, Bool.false_and, DL.dTop, ownAt, sApp, upOwn, zl, zr, h1, h2, h3, hidx])
      obtain ⟨rfl, _, t6, t12, t13, t14, t15, t16, rfl⟩ := q2
      rw [List.take_length] at q1
      have htup : (LS (x + 1)).take (x + 1) = (LS x).take x ++ [s] := by
        obtain ⟨r, hr⟩ := LS_pre x
        rw [← hr, List.take_append_of_le_length (by omega), List.take_succ, List.getElem?_eq_getElem h]
        rw [List.getD_eq_getElem?_getD, List.getElem?_eq_getElem h] at hss
        rw [← hss]
        rfl
      have zf : ((((LS x).take x).map Fd).map (ns true)).length < sizeLine := by
        rw [List.length_map, List.length_map, List.length_take]
        exact Nat.lt_of_lt_of_le (show min x (LS x).length < 1000000 by omega) size2000
      refine ⟨_, [.d (mD true true true true rows ends), .d (nss true true rows), .d (ns true ends), .d (.lst (k.map ni)), s4, .own ((Fd s).map ni), t6, s7, s8, .own ((LS (x + 1)).map ni), .own ((((LS (x + 1)).take (x + 1)).map Fd).map (ns true)), .d (.int (x : Int)), t12, t13, t14, t15, t16], τ3, rfl, ?_, rfl, ht, _, _, _, _, _, _, _, _, _, _, _, rfl⟩
      show sIf _ _ _ [.d (mD true true true true rows ends), .d (nss true true rows), .d (ns true ends), .d (.lst (k.map ni)), s4, s5, s6, s7, s8, .own ((LS x).map ni), .own ((((LS x).take x).map Fd).map (ns true)), .d (.int (x : Int)), s12, s13, s14, s15, s16] τ3 = _
      have hc : dB (dOp ltD (dVar 11) (dCB lenD (aCons (dTop 9) aNil))) [.d (mD true true true true rows ends), .d (nss true true rows), .d (ns true ends), .d (.lst (k.map ni)), s4, s5, s6, s7, s8, .own ((LS x).map ni), .own ((((LS x).take x).map Fd).map (ns true)), .d (.int (x : Int)), s12, s13, s14, s15, s16] = M.pure true := by
        simp (implicitDefEqProofs := false) only [DL.sSeq, DL.seqO, DL.sIf, DL.sRet, DL.sSet, DL.sExpr, DL.sNo, DL.sNil, DL.sMany, DL.setS, DL.sAsg, DL.bO_pure, DL.dVar, DL.dC, DL.dOp, DL.dCB, DL.dCall, DL.aCons, DL.aNil, DL.dB, DL.bAnd, DL.bOr, DL.bNot, DL.dAnd, DL.dOr, DL.dNot, DL.dNeg, DL.dChain, DL.dIsi, DL.dIsi2, DL.tyD, DL.Ty.isa, DL.dSlice, DL.pNone, DL.pSome, DL.dTup, DL.dOf, DL.fLst, DL.fComp, DL.fItems, DL.wipeS, DL.iSeq, DL.iR1, DL.iR2, DL.iZip, DL.xVal, DL.xNil, DL.dIf, DL.gN, DL.gT, DL.gsN, DL.gsC, DL.aStar, DL.M.pure_bind, DL.M.lift_some, DL.toB_bl, DL.toI_int, DL.fits_map, DL.fits_nil, List.map_cons, List.map_nil, List.replicate, List.cons_append, List.nil_append, Nat.sub_zero, Nat.reduceSub, List.getElem?_cons_zero, List.getElem?_cons_succ, List.length_cons, List.length_nil, Nat.zero_add, Nat.reduceAdd, if_true, List.set_cons_zero, List.set_cons_succ, Option.bind_some, DL.items_tup, DL.items_lst, Bool.false_eq_true, if_false, Bool.not_true, Bool.not_false, Bool.true_and, Bool.and_true, Bool.false_and, DL.dTop, hlen, hl, decide_eq_true h]
      unfold sIf
      rw [hc, bO_pure, if_pos rfl]
      refine st_own (ds := []) rfl ?_
      refine st_do q1 ?_
      rw [htup, List.map_append, List.map_append, eS]
      simp (implicitDefEqProofs := false) only [DL.sSeq, DL.seqO, DL.sIf, DL.sRet, DL.sSet, DL.sExpr, DL.sNo, DL.sNil, DL.sMany, DL.setS, DL.sAsg, DL.bO_pure, DL.dVar, DL.dC, DL.dOp, DL.dCB, DL.dCall, DL.aCons, DL.aNil, DL.dB, DL.bAnd, DL.bOr, DL.bNot, DL.dAnd, DL.dOr, DL.dNot, DL.dNeg, DL.dChain, DL.dIsi, DL.dIsi2, DL.tyD, DL.Ty.isa, DL.dSlice, DL.pNone, DL.pSome, DL.dTup, DL.dOf, DL.fLst, DL.fComp, DL.fItems, DL.wipeS, DL.iSeq, DL.iR1, DL.iR2, DL.iZip, DL.xVal, DL.xNil, DL.dIf, DL.gN, DL.gT, DL.gsN, DL.gsC, DL.aStar, DL.M.pure_bind, DL.M.lift_some, DL.toB_bl, DL.toI_int, DL.fits_map, DL.fits_nil, List.map_cons, List.map_nil, List.replicate, List.cons_append, List.nil_append, Nat.sub_zero, Nat.reduceSub, List.getElem?_cons_zero, List.getElem?_cons_succ, List.length_cons, List.length_nil, Nat.zero_add, Nat.reduceAdd, if_true, List.set_cons_zero, List.set_cons_succ, Option.bind_some, DL.items_tup, DL.items_lst, Bool.false_eq_true, if_false, Bool.not_true, Bool.not_false, Bool.true_and, Bool.and_true, Bool.false_and, DL.dTop, ownAt, sApp, upOwn, zf, tupleD]
      rfl
    · have eS : LS (x + 1) = LS x := by rw [LS_succ, if_neg h]
      have et : (LS x).take (x + 1) = (LS x).take x := by rw [List.take_of_length_le (by omega), List.take_of_length_le (by omega)]
      refine ⟨_, [.d (mD true true true true rows ends), .d (nss true true rows), .d (ns true ends), .d (.lst (k.map ni)), s4, s5, s6, s7, s8, .own ((LS x).map ni), .own ((((LS x).take x).map Fd).map (ns true)), .d (.int (x : Int)), s12, s13, s14, s15, s16], τ2, rfl, ?_, rfl, ht, s4, s5, s6, s7, s8, _, s12, s13, s14, s15, s16, by rw [eS, et]⟩
      simp (implicitDefEqProofs := false) only [DL.sSeq, DL.seqO, DL.sIf, DL.sRet, DL.sSet, DL.sExpr, DL.sNo, DL.sNil, DL.sMany, DL.setS, DL.sAsg, DL.bO_pure, DL.dVar, DL.dC, DL.dOp, DL.dCB, DL.dCall, DL.aCons, DL.aNil, DL.dB, DL.bAnd, DL.bOr, DL.bNot, DL.dAnd, DL.dOr, DL.dNot, DL.dNeg, DL.dChain, DL.dIsi, DL.dIsi2, DL.tyD, DL.Ty.isa, DL.dSlice, DL.pNone, DL.pSome, DL.dTup, DL.dOf, DL.fLst, DL.fComp, DL.fItems, DL.wipeS, DL.iSeq, DL.iR1, DL.iR2, DL.iZip, DL.xVal, DL.xNil, DL.dIf, DL.gN, DL.gT, DL.gsN, DL.gsC, DL.aStar, DL.M.pure_bind, DL.M.lift_some, DL.toB_bl, DL.toI_int, DL.fits_map, DL.fits_nil, List.map_cons, List.map_nil, List.replicate, List.cons_append, List.nil_append, Nat.sub_zero, Nat.reduceSub, List.getElem?_cons_zero, List.getElem?_cons_succ, List.length_cons, List.length_nil, Nat.zero_add, Nat.reduceAdd, if_true, List.set_cons_zero, List.set_cons_succ, Option.bind_some, DL.items_tup, DL.items_lst, Bool.false_eq_true, if_false, Bool.not_true, Bool.not_false, Bool.true_and, Bool.and_true, Bool.false_and, DL.dTop, hlen, hl, decide_eq_false h]
  · rintro ρ τ2 ⟨rfl, _, s4, s5, s6, s7, s8, s11, s12, s13, s14, s15, s16, rfl⟩
    rw [List.length_range]
    have et : (LS rows.length).take rows.length = LINE := List.take_of_length_le lenL
    rw [et, show LS rows.length = LINE from rfl]
    have hen : ∀ {u0 u1 u2 u3 u4 u5 u6 u7 u8 u10 u11 u12 u13 u14 u15 u16 : S}, DL.iEnum (dVar 9) [u0, u1, u2, u3, u4, u5, u6, u7, u8, .d (.lst (LINE.map ni)), u10, u11, u12, u13, u14, u15, u16] = M.pure ((enumN LINE).map fun p => D.tup [ni p.1, ni p.2]) := fun {u0 u1 u2 u3 u4 u5 u6 u7 u8 u10 u11 u12 u13 u14 u15 u16} => enum_ns (b := false) _ rfl
    have hfe : fits ((enumN LINE).map fun p => D.tup [ni p.1, ni p.2]) = true := fits_map (by rw [enumN_length]; exact Nat.le_trans (by omega) size1000)
    have hin : ∀ x : Nat, inD (ni x) (ns true ends) = some (.bl (decide (x ∈ ends))) := fun x => in_ns true x _
    have ef := enum_filter_num LINE fun x => decide (x ∈ ends)
    have f2 : ∀ x y : D, fits [x, y] = true := fun _ _ => rfl
    have key1 : ((enumN LINE).filter fun x => decide (x.2 ∈ ends)).map (fun x => ni x.1) = (canE (fun x => decide (x ∈ ends)) LINE).map ni := by
      unfold canE
      rw [← ef, List.map_map]
      rfl
    simp (implicitDefEqProofs := false) only [sFrz, frz, DL.sSeq, DL.seqO, DL.sIf, DL.sRet, DL.sSet, DL.sExpr, DL.sNo, DL.sNil, DL.sMany, DL.setS, DL.sAsg, DL.bO_pure, DL.dVar, DL.dC, DL.dOp, DL.dCB, DL.dCall, DL.aCons, DL.aNil, DL.dB, DL.bAnd, DL.bOr, DL.bNot, DL.dAnd, DL.dOr, DL.dNot, DL.dNeg, DL.dChain, DL.dIsi, DL.dIsi2, DL.tyD, DL.Ty.isa, DL.dSlice, DL.pNone, DL.pSome, DL.dTup, DL.dOf, DL.fLst, DL.fComp, DL.fItems, DL.wipeS, DL.iSeq, DL.iR1, DL.iR2, DL.iZip, DL.xVal, DL.xNil, DL.dIf, DL.gN, DL.gT, DL.gsN, DL.gsC, DL.aStar, DL.M.pure_bind, DL.M.lift_some, DL.toB_bl, DL.toI_int, DL.fits_map, DL.fits_nil, List.map_cons, List.map_nil, List.replicate, List.cons_append, List.nil_append, Nat.sub_zero, Nat.reduceSub, List.getElem?_cons_zero, List.getElem?_cons_succ, List.length_cons, List.length_nil, Nat.zero_add, Nat.reduceAdd, if_true, List.set_cons_zero, List.set_cons_succ, Option.bind_some, DL.items_tup, DL.items_lst, Bool.false_eq_true, if_false, Bool.not_true, Bool.not_false, Bool.true_and, Bool.and_true, Bool.false_and, DL.dTop, DL.items_sq, DL.len_sq, List.length_map, DL.ix_sq0, DL.ix_sq1, DL.in_ns, DL.nin_ns, DL.eqD_ni, DL.neD_ni, DL.add_ni, DL.lt_ni, DL.le_ni, DL.tuple_sq, DL.int_bl, DL.rangeD_0, Int.toNat_natCast, DL.comp_n, DL.comp_nt, DL.comp_2, DL.comp_2t, DL.mapMM_pure, DL.filtMM_pure, DL.ifp_and, DL.ifp_or, DL.ifd_and, DL.ifd_or, DL.filtMM_yes, hen, hfe, hin, tupleD, f2, key1]
    rfl
end
end K41
end

section
set_option Elab.async false
set_option linter.all false
set_option maxRecDepth 100000
set_option maxHeartbeats 4000000
open PySem PySem.Spec PyProof.Rows L2 DL MA
namespace K41
theorem TinOk.mono {n m : Nat} {τ : Tin} (h : TinOk n τ) (k : n ≤ m) : TinOk m τ := by
  obtain ⟨h1, h2, h3, h4⟩ := h
  exact ⟨h1, h2, h3, by omega⟩
structure Mach (wd n : Nat) (rows : Rows) (ends : List Nat) : Prop where
  ok : Ok wd rows
  len : rows.length ≤ n
  asc : ends.Pairwise (· < ·)
  lt : ∀ x ∈ ends, x < rows.length
theorem add_tups (xs ys : List D) (h : xs.length + ys.length ≤ 1000000) : addD (.tup xs) (.tup ys) = some (.tup (xs ++ ys)) := by
  show (if xs.length + ys.length ≤ sizeLine then some (D.tup (xs ++ ys)) else none) = _
  rw [if_pos (Nat.le_trans h size2000)]
theorem take_at {ρ : DL.Env} {i k n : Nat} {τ : Tin} {fa : DL.Env → M D} (hi : dVar i ρ = M.pure .tin) (ha : fa ρ = M.pure (ni k)) (h : TinOk n τ) (hn : n ≤ 100000) (h0 : 0 < k) (hk : k < 1073741824) : ∃ r τ', dCall 2 m_law_take (aCons (dVar i) (aCons fa aNil)) ρ τ = .ok (ni r) τ' ∧ r < k ∧ TinOk (n + 1) τ' := by
  obtain ⟨r, τ', e, hr, t⟩ := v_takeN h hn h0 hk
  exact ⟨r, τ', dCall_at (aCons_at (pure_at hi) (aCons_at (pure_at ha) aNil_at)) rfl e, hr, t⟩
theorem v_l2 {wd n : Nat} {τ : Tin} {s0 : S} {r1 : Rows} {e1 : List Nat} (h : TinOk n τ) (hn : n ≤ 900) (h0 : 0 < wd) (hw : wd ≤ 3) (m : Mach wd 6 r1 e1) : ∃ (r2 : Rows) (e2 : List Nat) (s4 : S) (τ' : Tin),
    l_2 [s0, .d .tin, .d (ni wd), .d (mD true true true true r1 e1), .un, .un, .un, .un, .un, .un, .un, .un, .un, .un, .un, .un, .un, .un, .un, .un, .un, .un, .un] τ = .nx [s0, .d .tin, .d (ni wd), .d (mD true true true true r1 e1), s4, .d (mD true true true true r2 e2), .un, .un, .un, .un, .un, .un, .un, .un, .un, .un, .un, .un, .un, .un, .un, .un, .un] τ' ∧ Mach wd 7 r2 e2 ∧ TinOk (n + 200) τ' := by
  obtain ⟨r, τ0, q0, hr, t0⟩ := take_at (i := 1) (k := 2) (fa := dC (.int 2)) (ρ := [s0, .d .tin, .d (ni wd), .d (mD true true true true r1 e1), .un, .un, .un, .un, .un, .un, .un, .un, .un, .un, .un, .un, .un, .un, .un, .un, .un, .un, .un]) rfl rfl h (by omega) (by omega) (by omega)
  have hc := dB_at (dOp_at q0 (fb := dC (.int 0)) rfl (eqD_ni r 0))
  have l1 := m.len
  have p1 := m.ok.pos
  by_cases hr0 : r = 0
  · rw [decide_eq_true hr0] at hc
    have hl : (dCB lenD (aCons (dOp ixD (dVar 3) (dC (.int 0))) aNil)) [s0, .d .tin, .d (ni wd), .d (mD true true true true r1 e1), .un, .un, .un, .un, .un, .un, .un, .un, .un, .un, .un, .un, .un, .un, .un, .un, .un, .un, .un] = M.pure (ni r1.length) := by
      simp (implicitDefEqProofs := false) only [DL.sSeq, DL.seqO, DL.sIf, DL.sRet, DL.sSet, DL.sExpr, DL.sNo, DL.sNil, DL.sMany, DL.setS, DL.sAsg, DL.bO_pure, DL.dVar, DL.dC, DL.dOp, DL.dCB, DL.dCall, DL.aCons, DL.aNil, DL.dB, DL.bAnd, DL.bOr, DL.bNot, DL.dAnd, DL.dOr, DL.dNot, DL.dNeg, DL.dChain, DL.dIsi, DL.dIsi2, DL.tyD, DL.Ty.isa, DL.dSlice, DL.pNone, DL.pSome, DL.dTup, DL.dOf, DL.fLst, DL.fComp, DL.fItems, DL.wipeS, DL.iSeq, DL.iR1, DL.iR2, DL.iZip, DL.xVal, DL.xNil, DL.dIf, DL.gN, DL.gT, DL.gsN, DL.gsC, DL.aStar, DL.M.pure_bind, DL.M.lift_some, DL.toB_bl, DL.toI_int, DL.fits_map, DL.fits_nil, List.map_cons, List.map_nil, List.replicate, List.cons_append, List.nil_append, Nat.sub_zero, Nat.reduceSub, List.getElem?_cons_zero, List.getElem?_cons_succ, List.length_cons, List.length_nil, Nat.zero_add, Nat.reduceAdd, if_true, List.set_cons_zero, List.set_cons_succ, Option.bind_some, DL.items_tup, DL.items_lst, Bool.false_eq_true, if_false, Bool.not_true, Bool.not_false, Bool.true_and, Bool.and_true, Bool.false_and, DL.dTop, DL.items_sq, DL.len_sq, List.length_map, DL.ix_sq0, DL.ix_sq1, DL.in_ns, DL.nin_ns, DL.eqD_ni, DL.neD_ni, DL.add_ni, DL.lt_ni, DL.le_ni, DL.tuple_sq, DL.int_bl, DL.rangeD_0, Int.toNat_natCast, DL.comp_n, DL.comp_nt, DL.comp_2, DL.comp_2t, DL.mapMM_pure, DL.filtMM_pure, DL.ifp_and, DL.ifp_or, DL.ifd_and, DL.ifd_or, DL.filtMM_yes]
    obtain ⟨x, τ1, q1, hx, t1⟩ := take_at (i := 1) rfl hl t0 (by omega) p1 (by omega)
    let r1' : Rows := r1 ++ [nx r1 x]
    let e2 : List Nat := e1 ++ if x ∈ e1 then [r1.length] else []
    have hA : dTup (aCons (dOp addD (dOp ixD (dVar 3) (dC (.int 0))) (dTup (aCons (dOp ixD (dOp ixD (dVar 3) (dC (.int 0))) (dVar 4)) aNil))) (aCons (dOp addD (dOp ixD (dVar 3) (dC (.int 1))) (dIf (dB (dOp inD (dVar 4) (dOp ixD (dVar 3) (dC (.int 1))))) (dTup (aCons (dCB lenD (aCons (dOp ixD (dVar 3) (dC (.int 0))) aNil)) aNil)) (dTup aNil))) aNil)) [s0, .d .tin, .d (ni wd), .d (mD true true true true r1 e1), .d (ni x), .un, .un, .un, .un, .un, .un, .un, .un, .un, .un, .un, .un, .un, .un, .un, .un, .un, .un] = M.pure (mD true true true true r1' e2) := by
      have a1 := ix_nss (b := true) (c := true) hx
      have el : e1.length ≤ r1.length := nodup_le (m.asc.imp fun h e => by omega) m.lt
      have f1 : ∀ x : D, fits [x] = true := fun _ => rfl
      have f2 : ∀ x y : D, fits [x, y] = true := fun _ _ => rfl
      have b1 : addD (nss true true r1) (.tup [ns true (nx r1 x)]) = some (nss true true r1') := by
        refine (add_tups (r1.map (ns true)) [ns true (nx r1 x)] (by rw [List.length_map, List.length_singleton]; omega)).trans ?_
        show _ = some (D.tup ((r1 ++ [nx r1 x]).map (ns true)))
        rw [List.map_append]
        rfl
      have b2 : inD (ni x) (ns true e1) = some (.bl (decide (x ∈ e1))) := in_ns true x e1
      by_cases hxe : x ∈ e1
      · have b3 : addD (ns true e1) (.tup [ni r1.length]) = some (ns true e2) := by
          refine (add_tups (e1.map ni) [ni r1.length] (by rw [List.length_map, List.length_singleton]; omega)).trans ?_
          show _ = some (D.tup ((e1 ++ if x ∈ e1 then [r1.length] else []).map ni))
          rw [if_pos hxe, List.map_append]
          rfl
        simp (implicitDefEqProofs := false) only [DL.sSeq, DL.seqO, DL.sIf, DL.sRet, DL.sSet, DL.sExpr, DL.sNo, DL.sNil, DL.sMany, DL.setS, DL.sAsg, DL.bO_pure, DL.dVar, DL.dC, DL.dOp, DL.dCB, DL.dCall, DL.aCons, DL.aNil, DL.dB, DL.bAnd, DL.bOr, DL.bNot, DL.dAnd, DL.dOr, DL.dNot, DL.dNeg, DL.dChain, DL.dIsi, DL.dIsi2, DL.tyD, DL.Ty.isa, DL.dSlice, DL.pNone, DL.pSome, DL.dTup, DL.dOf, DL.fLst, DL.fComp, DL.fItems, DL.wipeS, DL.iSeq, DL.iR1, DL.iR2, DL.iZip, DL.xVal, DL.xNil, DL.dIf, DL.gN, DL.gT, DL.gsN, DL.gsC, DL.aStar, DL.M.pure_bind, DL.M.lift_some, DL.toB_bl, DL.toI_int, DL.fits_map, DL.fits_nil, List.map_cons, List.map_nil, List.replicate, List.cons_append, List.nil_append, Nat.sub_zero, Nat.reduceSub, List.getElem?_cons_zero, List.getElem?_cons_succ, List.length_cons, List.length_nil, Nat.zero_add, Nat.reduceAdd, if_true, List.set_cons_zero, List.set_cons_succ, Option.bind_some, DL.items_tup, DL.items_lst, Bool.false_eq_true, if_false, Bool.not_true, Bool.not_false, Bool.true_and, Bool.and_true, Bool.false_and, DL.dTop, DL.items_sq, DL.len_sq, List.length_map, DL.ix_sq0, DL.ix_sq1, DL.in_ns, DL.nin_ns, DL.eqD_ni, DL.neD_ni, DL.add_ni, DL.lt_ni, DL.le_ni, DL.tuple_sq, DL.int_bl, DL.rangeD_0, Int.toNat_natCast, DL.comp_n, DL.comp_nt, DL.comp_2, DL.comp_2t, DL.mapMM_pure, DL.filtMM_pure, DL.ifp_and, DL.ifp_or, DL.ifd_and, DL.ifd_or, DL.filtMM_yes, a1, f1, f2, b1, b2, b3, decide_eq_true hxe]
        rfl
      · have b3 : addD (ns true e1) (.tup []) = some (ns true e2) := by
          refine (add_tups (e1.map ni) [] (by rw [List.length_map, List.length_nil]; omega)).trans ?_
          show _ = some (D.tup ((e1 ++ if x ∈ e1 then [r1.length] else []).map ni))
          rw [if_neg hxe, List.map_append]
          rfl
        simp (implicitDefEqProofs := false) only [DL.sSeq, DL.seqO, DL.sIf, DL.sRet, DL.sSet, DL.sExpr, DL.sNo, DL.sNil, DL.sMany, DL.setS, DL.sAsg, DL.bO_pure, DL.dVar, DL.dC, DL.dOp, DL.dCB, DL.dCall, DL.aCons, DL.aNil, DL.dB, DL.bAnd, DL.bOr, DL.bNot, DL.dAnd, DL.dOr, DL.dNot, DL.dNeg, DL.dChain, DL.dIsi, DL.dIsi2, DL.tyD, DL.Ty.isa, DL.dSlice, DL.pNone, DL.pSome, DL.dTup, DL.dOf, DL.fLst, DL.fComp, DL.fItems, DL.wipeS, DL.iSeq, DL.iR1, DL.iR2, DL.iZip, DL.xVal, DL.xNil, DL.dIf, DL.gN, DL.gT, DL.gsN, DL.gsC, DL.aStar, DL.M.pure_bind, DL.M.lift_some, DL.toB_bl, DL.toI_int, DL.fits_map, DL.fits_nil, List.map_cons, List.map_nil, List.replicate, List.cons_append, List.nil_append, Nat.sub_zero, Nat.reduceSub, List.getElem?_cons_zero, List.getElem?_cons_succ, List.length_cons, List.length_nil, Nat.zero_add, Nat.reduceAdd, if_true, List.set_cons_zero, List.set_cons_succ, Option.bind_some, DL.items_tup, DL.items_lst, Bool.false_eq_true, if_false, Bool.not_true, Bool.not_false, Bool.true_and, Bool.and_true, Bool.false_and, DL.dTop, DL.items_sq, DL.len_sq, List.length_map, DL.ix_sq0, DL.ix_sq1, DL.in_ns, DL.nin_ns, DL.eqD_ni, DL.neD_ni, DL.add_ni, DL.lt_ni, DL.le_ni, DL.tuple_sq, DL.int_bl, DL.rangeD_0, Int.toNat_natCast, DL.comp_n, DL.comp_nt, DL.comp_2, DL.comp_2t, DL.mapMM_pure, DL.filtMM_pure, DL.ifp_and, DL.ifp_or, DL.ifd_and, DL.ifd_or, DL.filtMM_yes, a1, f1, f2, b1, b2, b3, decide_eq_false hxe]
        rfl
    have hr1' : ∀ row ∈ r1', row.length = wd ∧ ∀ g ∈ row, g < r1.length := fun row hrow => by
      rcases List.mem_append.mp hrow with z | z
      · exact m.ok.row row z
      · rw [List.mem_singleton.mp z]
        exact ⟨m.ok.nx_len hx, m.ok.nx_lt hx⟩
    have lr1 : r1'.length = r1.length + 1 := by show (r1 ++ [nx r1 x]).length = _; rw [List.length_append]; rfl
    obtain ⟨rows, τ2, q2, l2, p2, t2⟩ := comp_draws (f := dCB tupleD (aCons (dOf (fComp (iSeq (dVar 21)) [22] (gN 22) bYes (dIf (bAnd (dB (dOp eqD (dVar 22) (dVar 4))) (dB (dOp eqD (dCall 2 (m_law_take) (aCons (dVar 1) (aCons (dC (.int 2)) aNil))) (dC (.int 0))))) (dCB lenD (aCons (dOp ixD (dVar 3) (dC (.int 0))) aNil)) (dVar 22)))) aNil)) (ρ := [s0, .d .tin, .d (ni wd), .d (mD true true true true r1 e1), .d (ni x), .d (mD true true true true r1' e2), .un, .un, .un, .un, .un, .un, .un, .un, .un, .un, .un, .un, .un, .un, .un, .un, .un]) (i := 21) (j := ns true) (h := fun r : List Nat => ns true r) (P := fun r => r.length = wd ∧ ∀ y ∈ r, y < r1.length + 1) (d := 3) r1' (n + 1 + 1) τ1 t1 (fun row hrow n τ t hn => by
      obtain ⟨hl, hg⟩ := hr1' row hrow
      obtain ⟨rs, τ', e, l, p, t⟩ := comp_draws (f := dIf (bAnd (dB (dOp eqD (dVar 22) (dVar 4))) (dB (dOp eqD (dCall 2 (m_law_take) (aCons (dVar 1) (aCons (dC (.int 2)) aNil))) (dC (.int 0))))) (dCB lenD (aCons (dOp ixD (dVar 3) (dC (.int 0))) aNil)) (dVar 22)) (ρ := [s0, .d .tin, .d (ni wd), .d (mD true true true true r1 e1), .d (ni x), .d (mD true true true true r1' e2), .un, .un, .un, .un, .un, .un, .un, .un, .un, .un, .un, .un, .un, .un, .un, .d (ns true row), .un]) (i := 22) (j := ni) (h := ni) (P := fun y => y < r1.length + 1) (d := 1) row n τ t (fun g hgm n τ t hn => by
        have hgl := hg g hgm
        by_cases hgx : g = x
        · obtain ⟨r, τ', e, hr, t'⟩ := take_at (i := 1) (k := 2) (fa := dC (.int 2)) (ρ := [s0, .d .tin, .d (ni wd), .d (mD true true true true r1 e1), .d (ni x), .d (mD true true true true r1' e2), .un, .un, .un, .un, .un, .un, .un, .un, .un, .un, .un, .un, .un, .un, .un, .d (ns true row), .d (ni g)]) rfl rfl t (by omega) (by omega) (by omega)
          have hc2 := dB_at (dOp_at e (fb := dC (.int 0)) rfl (eqD_ni r 0))
          refine ⟨if r = 0 then r1.length else g, τ', ?_, by split <;> omega, t'⟩
          have hb : bAnd (dB (dOp eqD (dVar 22) (dVar 4))) (dB (dOp eqD (dCall 2 (m_law_take) (aCons (dVar 1) (aCons (dC (.int 2)) aNil))) (dC (.int 0)))) [s0, .d .tin, .d (ni wd), .d (mD true true true true r1 e1), .d (ni x), .d (mD true true true true r1' e2), .un, .un, .un, .un, .un, .un, .un, .un, .un, .un, .un, .un, .un, .un, .un, .d (ns true row), .d (ni g)] τ = .ok (decide (r = 0)) τ' := by
            have h1 : dB (dOp eqD (dVar 22) (dVar 4)) [s0, .d .tin, .d (ni wd), .d (mD true true true true r1 e1), .d (ni x), .d (mD true true true true r1' e2), .un, .un, .un, .un, .un, .un, .un, .un, .un, .un, .un, .un, .un, .un, .un, .d (ns true row), .d (ni g)] = M.pure true := by
              simp (implicitDefEqProofs := false) only [DL.sSeq, DL.seqO, DL.sIf, DL.sRet, DL.sSet, DL.sExpr, DL.sNo, DL.sNil, DL.sMany, DL.setS, DL.sAsg, DL.bO_pure, DL.dVar, DL.dC, DL.dOp, DL.dCB, DL.dCall, DL.aCons, DL.aNil, DL.dB, DL.bAnd, DL.bOr, DL.bNot, DL.dAnd, DL.dOr, DL.dNot, DL.dNeg, DL.dChain, DL.dIsi, DL.dIsi2, DL.tyD, DL.Ty.isa, DL.dSlice, DL.pNone, DL.pSome, DL.dTup, DL.dOf, DL.fLst, DL.fComp, DL.fItems, DL.wipeS, DL.iSeq, DL.iR1, DL.iR2, DL.iZip, DL.xVal, DL.xNil, DL.dIf, DL.gN, DL.gT, DL.gsN, DL.gsC, DL.aStar, DL.M.pure_bind, DL.M.lift_some, DL.toB_bl, DL.toI_int, DL.fits_map, DL.fits_nil, List.map_cons, List.map_nil, List.replicate, List.cons_append, List.nil_append, Nat.sub_zero, Nat.reduceSub, List.getElem?_cons_zero, List.getElem?_cons_succ, List.length_cons, List.length_nil, Nat.zero_add, Nat.reduceAdd, if_true, List.set_cons_zero, List.set_cons_succ, Option.bind_some, DL.items_tup, DL.items_lst, Bool.false_eq_true, if_false, Bool.not_true, Bool.not_false, Bool.true_and, Bool.and_true, Bool.false_and, DL.dTop, eqD_ni, decide_eq_true hgx]
            unfold bAnd
            rw [h1, M.pure_bind, if_pos rfl]
            exact hc2
          show M.bind (bAnd _ _ [s0, .d .tin, .d (ni wd), .d (mD true true true true r1 e1), .d (ni x), .d (mD true true true true r1' e2), .un, .un, .un, .un, .un, .un, .un, .un, .un, .un, .un, .un, .un, .un, .un, .d (ns true row), .d (ni g)]) _ τ = _
          rw [M.bind_ok hb]
          by_cases hr0 : r = 0
          · rw [decide_eq_true hr0, if_pos rfl, if_pos hr0]
            simp (implicitDefEqProofs := false) only [DL.sSeq, DL.seqO, DL.sIf, DL.sRet, DL.sSet, DL.sExpr, DL.sNo, DL.sNil, DL.sMany, DL.setS, DL.sAsg, DL.bO_pure, DL.dVar, DL.dC, DL.dOp, DL.dCB, DL.dCall, DL.aCons, DL.aNil, DL.dB, DL.bAnd, DL.bOr, DL.bNot, DL.dAnd, DL.dOr, DL.dNot, DL.dNeg, DL.dChain, DL.dIsi, DL.dIsi2, DL.tyD, DL.Ty.isa, DL.dSlice, DL.pNone, DL.pSome, DL.dTup, DL.dOf, DL.fLst, DL.fComp, DL.fItems, DL.wipeS, DL.iSeq, DL.iR1, DL.iR2, DL.iZip, DL.xVal, DL.xNil, DL.dIf, DL.gN, DL.gT, DL.gsN, DL.gsC, DL.aStar, DL.M.pure_bind, DL.M.lift_some, DL.toB_bl, DL.toI_int, DL.fits_map, DL.fits_nil, List.map_cons, List.map_nil, List.replicate, List.cons_append, List.nil_append, Nat.sub_zero, Nat.reduceSub, List.getElem?_cons_zero, List.getElem?_cons_succ, List.length_cons, List.length_nil, Nat.zero_add, Nat.reduceAdd, if_true, List.set_cons_zero, List.set_cons_succ, Option.bind_some, DL.items_tup, DL.items_lst, Bool.false_eq_true, if_false, Bool.not_true, Bool.not_false, Bool.true_and, Bool.and_true, Bool.false_and, DL.dTop, DL.items_sq, DL.len_sq, List.length_map, DL.ix_sq0, DL.ix_sq1, DL.in_ns, DL.nin_ns, DL.eqD_ni, DL.neD_ni, DL.add_ni, DL.lt_ni, DL.le_ni, DL.tuple_sq, DL.int_bl, DL.rangeD_0, Int.toNat_natCast, DL.comp_n, DL.comp_nt, DL.comp_2, DL.comp_2t, DL.mapMM_pure, DL.filtMM_pure, DL.ifp_and, DL.ifp_or, DL.ifd_and, DL.ifd_or, DL.filtMM_yes]
            rfl
          · rw [decide_eq_false hr0, if_neg (by decide), if_neg hr0]
            rfl
        · refine ⟨g, τ, ?_, by omega, t.mono (Nat.le_succ n)⟩
          show dIf _ _ _ [s0, .d .tin, .d (ni wd), .d (mD true true true true r1 e1), .d (ni x), .d (mD true true true true r1' e2), .un, .un, .un, .un, .un, .un, .un, .un, .un, .un, .un, .un, .un, .un, .un, .d (ns true row), .d (ni g)] τ = _
          simp (implicitDefEqProofs := false) only [DL.sSeq, DL.seqO, DL.sIf, DL.sRet, DL.sSet, DL.sExpr, DL.sNo, DL.sNil, DL.sMany, DL.setS, DL.sAsg, DL.bO_pure, DL.dVar, DL.dC, DL.dOp, DL.dCB, DL.dCall, DL.aCons, DL.aNil, DL.dB, DL.bAnd, DL.bOr, DL.bNot, DL.dAnd, DL.dOr, DL.dNot, DL.dNeg, DL.dChain, DL.dIsi, DL.dIsi2, DL.tyD, DL.Ty.isa, DL.dSlice, DL.pNone, DL.pSome, DL.dTup, DL.dOf, DL.fLst, DL.fComp, DL.fItems, DL.wipeS, DL.iSeq, DL.iR1, DL.iR2, DL.iZip, DL.xVal, DL.xNil, DL.dIf, DL.gN, DL.gT, DL.gsN, DL.gsC, DL.aStar, DL.M.pure_bind, DL.M.lift_some, DL.toB_bl, DL.toI_int, DL.fits_map, DL.fits_nil, List.map_cons, List.map_nil, List.replicate, List.cons_append, List.nil_append, Nat.sub_zero, Nat.reduceSub, List.getElem?_cons_zero, List.getElem?_cons_succ, List.length_cons, List.length_nil, Nat.zero_add, Nat.reduceAdd, if_true, List.set_cons_zero, List.set_cons_succ, Option.bind_some, DL.items_tup, DL.items_lst, Bool.false_eq_true, if_false, Bool.not_true, Bool.not_false, Bool.true_and, Bool.and_true, Bool.false_and, DL.dTop, eqD_ni, decide_eq_false hgx]
          rfl) (by omega)
      refine ⟨rs, τ', tup_at (fComp_at (ds := row.map ni) rfl (by rw [List.length_map]; exact Nat.le_trans (show _ ≤ 1000000 by omega) size2000) e), ⟨l.trans hl, p⟩, t.mono (by omega)⟩) (by rw [lr1]; omega)
    have hB : dTup (aCons (dCB tupleD (aCons (dOf (fComp (iSeq (dOp ixD (dVar 5) (dC (.int 0)))) [21] (gN 21) bYes (dCB tupleD (aCons (dOf (fComp (iSeq (dVar 21)) [22] (gN 22) bYes (dIf (bAnd (dB (dOp eqD (dVar 22) (dVar 4))) (dB (dOp eqD (dCall 2 (m_law_take) (aCons (dVar 1) (aCons (dC (.int 2)) aNil))) (dC (.int 0))))) (dCB lenD (aCons (dOp ixD (dVar 3) (dC (.int 0))) aNil)) (dVar 22)))) aNil)))) aNil)) (aCons (dOp ixD (dVar 5) (dC (.int 1))) aNil)) [s0, .d .tin, .d (ni wd), .d (mD true true true true r1 e1), .d (ni x), .d (mD true true true true r1' e2), .un, .un, .un, .un, .un, .un, .un, .un, .un, .un, .un, .un, .un, .un, .un, .un, .un] τ1 = .ok (mD true true true true rows e2) τ2 := by
      refine dTup_at (aCons_at (tup_at (fComp_at (ds := r1'.map (ns true)) ?_ (by rw [List.length_map]; exact Nat.le_trans (show _ ≤ 1000000 by omega) size2000) q2)) (aCons_at (x := ns true e2) (τ1 := τ2) ?_ aNil_at)) two_size
      · simp (implicitDefEqProofs := false) only [DL.sSeq, DL.seqO, DL.sIf, DL.sRet, DL.sSet, DL.sExpr, DL.sNo, DL.sNil, DL.sMany, DL.setS, DL.sAsg, DL.bO_pure, DL.dVar, DL.dC, DL.dOp, DL.dCB, DL.dCall, DL.aCons, DL.aNil, DL.dB, DL.bAnd, DL.bOr, DL.bNot, DL.dAnd, DL.dOr, DL.dNot, DL.dNeg, DL.dChain, DL.dIsi, DL.dIsi2, DL.tyD, DL.Ty.isa, DL.dSlice, DL.pNone, DL.pSome, DL.dTup, DL.dOf, DL.fLst, DL.fComp, DL.fItems, DL.wipeS, DL.iSeq, DL.iR1, DL.iR2, DL.iZip, DL.xVal, DL.xNil, DL.dIf, DL.gN, DL.gT, DL.gsN, DL.gsC, DL.aStar, DL.M.pure_bind, DL.M.lift_some, DL.toB_bl, DL.toI_int, DL.fits_map, DL.fits_nil, List.map_cons, List.map_nil, List.replicate, List.cons_append, List.nil_append, Nat.sub_zero, Nat.reduceSub, List.getElem?_cons_zero, List.getElem?_cons_succ, List.length_cons, List.length_nil, Nat.zero_add, Nat.reduceAdd, if_true, List.set_cons_zero, List.set_cons_succ, Option.bind_some, DL.items_tup, DL.items_lst, Bool.false_eq_true, if_false, Bool.not_true, Bool.not_false, Bool.true_and, Bool.and_true, Bool.false_and, DL.dTop, DL.items_sq, DL.len_sq, List.length_map, DL.ix_sq0, DL.ix_sq1, DL.in_ns, DL.nin_ns, DL.eqD_ni, DL.neD_ni, DL.add_ni, DL.lt_ni, DL.le_ni, DL.tuple_sq, DL.int_bl, DL.rangeD_0, Int.toNat_natCast, DL.comp_n, DL.comp_nt, DL.comp_2, DL.comp_2t, DL.mapMM_pure, DL.filtMM_pure, DL.ifp_and, DL.ifp_or, DL.ifd_and, DL.ifd_or, DL.filtMM_yes]
      · refine pure_at ?_
        simp (implicitDefEqProofs := false) only [DL.sSeq, DL.seqO, DL.sIf, DL.sRet, DL.sSet, DL.sExpr, DL.sNo, DL.sNil, DL.sMany, DL.setS, DL.sAsg, DL.bO_pure, DL.dVar, DL.dC, DL.dOp, DL.dCB, DL.dCall, DL.aCons, DL.aNil, DL.dB, DL.bAnd, DL.bOr, DL.bNot, DL.dAnd, DL.dOr, DL.dNot, DL.dNeg, DL.dChain, DL.dIsi, DL.dIsi2, DL.tyD, DL.Ty.isa, DL.dSlice, DL.pNone, DL.pSome, DL.dTup, DL.dOf, DL.fLst, DL.fComp, DL.fItems, DL.wipeS, DL.iSeq, DL.iR1, DL.iR2, DL.iZip, DL.xVal, DL.xNil, DL.dIf, DL.gN, DL.gT, DL.gsN, DL.gsC, DL.aStar, DL.M.pure_bind, DL.M.lift_some, DL.toB_bl, DL.toI_int, DL.fits_map, DL.fits_nil, List.map_cons, List.map_nil, List.replicate, List.cons_append, List.nil_append, Nat.sub_zero, Nat.reduceSub, List.getElem?_cons_zero, List.getElem?_cons_succ, List.length_cons, List.length_nil, Nat.zero_add, Nat.reduceAdd, if_true, List.set_cons_zero, List.set_cons_succ, Option.bind_some, DL.items_tup, DL.items_lst, Bool.false_eq_true, if_false, Bool.not_true, Bool.not_false, Bool.true_and, Bool.and_true, Bool.false_and, DL.dTop, DL.items_sq, DL.len_sq, List.length_map, DL.ix_sq0, DL.ix_sq1, DL.in_ns, DL.nin_ns, DL.eqD_ni, DL.neD_ni, DL.add_ni, DL.lt_ni, DL.le_ni, DL.tuple_sq, DL.int_bl, DL.rangeD_0, Int.toNat_natCast, DL.comp_n, DL.comp_nt, DL.comp_2, DL.comp_2t, DL.mapMM_pure, DL.filtMM_pure, DL.ifp_and, DL.ifp_or, DL.ifd_and, DL.ifd_or, DL.filtMM_yes]
    refine ⟨rows, e2, .d (ni x), τ2, ?_, ⟨⟨by rw [l2, lr1]; omega, fun r hr => ⟨(p2 r hr).1, fun y hy => by rw [l2, lr1]; exact (p2 r hr).2 y hy⟩⟩, by rw [l2, lr1]; omega, ?_, ?_⟩, t2.mono (by rw [lr1]; omega)⟩
    · unfold l_2 sIf
      rw [bO_ok hc, if_pos rfl]
      refine st_setE q1 ?_
      refine st_set hA ?_
      unfold sSet
      refine (bO_ok hB).trans rfl
    · show (e1 ++ if x ∈ e1 then [r1.length] else []).Pairwise (· < ·)
      rw [List.pairwise_append]
      refine ⟨m.asc, by split <;> simp, fun y hy z hz => ?_⟩
      have := m.lt y hy
      split at hz
      · rw [List.mem_singleton.mp hz]; exact this
      · cases hz
    · intro y hy
      rw [l2, lr1]
      rcases List.mem_append.mp hy with hy | hy
      · have := m.lt y hy; omega
      · split at hy
        · rw [List.mem_singleton.mp hy]; omega
        · cases hy
  · rw [decide_eq_false hr0] at hc
    obtain ⟨r2, e2, τ1, q1, o, l, a, b, t1⟩ := v_law_machine t0 (by omega) h0 hw
    refine ⟨r2, e2, .un, τ1, ?_, ⟨o, by omega, a, b⟩, t1.mono (by omega)⟩
    unfold l_2 sIf
    rw [bO_ok hc, if_neg (by decide)]
    unfold sSet
    refine (bO_ok (dCall_at (aCons_at rfl (aCons_at rfl aNil_at)) rfl q1)).trans rfl
end K41
end

section
set_option Elab.async false
set_option linter.all false
set_option maxRecDepth 100000
set_option maxHeartbeats 4000000
open PySem PySem.Spec PyProof.Rows L2 DL MA
namespace K41
structure Lin2 (n m t : Nat) (line : List (List Nat × Nat × Nat)) : Prop where
  nd : (line.map (·.2)).Nodup
  lt : ∀ e ∈ line, e.2.1 < n ∧ e.2.2 < m
  le : ∀ e ∈ line, e.1.length ≤ t
theorem Lin2.add {n m t : Nat} {line : List (List Nat × Nat × Nat)} {u : List Nat} {l : Nat} {g : Nat × Nat} (h : Lin2 n m t line) (hu : u.length < t) (hg : g.1 < n ∧ g.2 < m) : Lin2 n m t (wadd line u l g) := by
  unfold wadd
  split
  · exact h
  · rename_i hn
    refine ⟨?_, fun e he => ?_, fun e he => ?_⟩
    · rw [List.map_append, List.nodup_append]
      refine ⟨h.nd, by simp, fun a ha b hb e => ?_⟩
      simp only [List.map_cons, List.map_nil, List.mem_singleton] at hb
      rw [e, hb] at ha
      exact hn ha
    · rcases List.mem_append.mp he with he | he
      · exact h.lt e he
      · rw [List.mem_singleton.mp he]; exact hg
    · rcases List.mem_append.mp he with he | he
      · exact h.le e he
      · rw [List.mem_singleton.mp he, List.length_append]; exact hu
theorem Lin2.len {n m t : Nat} {line : List (List Nat × Nat × Nat)} (h : Lin2 n m t line) : line.length ≤ n * m := by
  have := pairs_le h.nd fun p hp => by
    obtain ⟨y, hy, rfl⟩ := List.mem_map.mp hp
    exact h.lt y hy
  rwa [List.length_map] at this
def LC (line : List (List Nat × Nat × Nat)) : List D := line.map fun x => D.tup [ns true x.1, ni x.2.1, ni x.2.2]
def SC (line : List (List Nat × Nat × Nat)) : List D := line.map fun x => D.tup [ni x.2.1, ni x.2.2]
theorem cod_nn : Cod 1 (fun p : Nat × Nat => D.tup [ni p.1, ni p.2]) := cod_nat.pair cod_nat
theorem nin_SC (g : Nat × Nat) (line : List (List Nat × Nat × Nat)) (b : Bool) (h : b = true ↔ g ∉ line.map (·.2)) : ninD (.tup [ni g.1, ni g.2]) (.lst (SC line)) = some (.bl b) := by
  have := nin_sq cod_nn (by omega) false g (line.map (·.2))
  rw [List.map_map] at this
  refine this.trans ?_
  congr 2
  cases b with
  | true => simp only [Bool.not_eq_true', decide_eq_false_iff_not]; exact h.mp rfl
  | false => simp only [Bool.not_eq_false', decide_eq_true_eq]; exact Classical.byContradiction fun z => Bool.noConfusion (h.mpr z)
section
variable {wd : Nat} {r1 r2 : Rows} {e1 e2 : List Nat}
theorem v_l8_in {s0 s4 s6 s7 : S} {fd : D} {u15 u16 : S} {t p q : Nat} {u : List Nat} {line : List (List Nat × Nat × Nat)} {τ : Tin} (hw : wd ≤ 3) (o1 : Ok wd r1) (o2 : Ok wd r2) (h1 : r1.length ≤ 6) (h2 : r2.length ≤ 7) (P : Lin2 r1.length r2.length t line) (hp : p < r1.length) (hq : q < r2.length) (hu : u.length ≤ t) (ht : t < 60) :
    ∃ s15 s16, sFor (iR2 (dC (.int 1)) (dOp addD (dVar 2) (dC (.int 1)))) (gN 15) (sSeq (sSet 16 (dTup (aCons (dOp ixD (dOp ixD (dOp ixD (dVar 3) (dC (.int 0))) (dVar 13)) (dOp subD (dVar 15) (dC (.int 1)))) (aCons (dOp ixD (dOp ixD (dOp ixD (dVar 5) (dC (.int 0))) (dVar 14)) (dOp subD (dVar 15) (dC (.int 1)))) aNil))))
    (sIf (dB (dOp ninD (dVar 16) (dTop 10))) (sSeq (ownAt 10 (sApp 10 (dVar 16)))
    (ownAt 8 (sApp 8 (dOp addD (dTup (aCons (dOp addD (dVar 12) (dTup (aCons (dVar 15) aNil))) aNil)) (dVar 16))))) sNil))
    [s0, .d .tin, .d (ni wd), .d (mD true true true true r1 e1), s4, .d (mD true true true true r2 e2), s6, s7, .own (LC line), .d fd, .own (SC line), .d (ni t), .d (ns true u), .d (ni p), .d (ni q), u15, u16, .un, .un, .un, .un, .un, .un] τ =
    .nx [s0, .d .tin, .d (ni wd), .d (mD true true true true r1 e1), s4, .d (mD true true true true r2 e2), s6, s7, .own (LC (wgrow u 1 (nx2 r1 r2 (p, q)) line)), .d fd, .own (SC (wgrow u 1 (nx2 r1 r2 (p, q)) line)), .d (ni t), .d (ns true u), .d (ni p), .d (ni q), s15, s16, .un, .un, .un, .un, .un, .un] τ ∧ Lin2 r1.length r2.length (t + 1) (wgrow u 1 (nx2 r1 r2 (p, q)) line) := by
  have hi2 : (iR2 (dC (.int 1)) (dOp addD (dVar 2) (dC (.int 1)))) [s0, .d .tin, .d (ni wd), .d (mD true true true true r1 e1), s4, .d (mD true true true true r2 e2), s6, s7, .own (LC line), .d fd, .own (SC line), .d (ni t), .d (ns true u), .d (ni p), .d (ni q), u15, u16, .un, .un, .un, .un, .un, .un] = M.pure ((List.range wd).map fun i => ni (1 + i)) := by
    have a1 : addD (ni wd) (.int 1) = some (ni (wd + 1)) := add_ni wd 1
    unfold iR2
    simp (implicitDefEqProofs := false) only [DL.sSeq, DL.seqO, DL.sIf, DL.sRet, DL.sSet, DL.sExpr, DL.sNo, DL.sNil, DL.sMany, DL.setS, DL.sAsg, DL.bO_pure, DL.dVar, DL.dC, DL.dOp, DL.dCB, DL.dCall, DL.aCons, DL.aNil, DL.dB, DL.bAnd, DL.bOr, DL.bNot, DL.dAnd, DL.dOr, DL.dNot, DL.dNeg, DL.dChain, DL.dIsi, DL.dIsi2, DL.tyD, DL.Ty.isa, DL.dSlice, DL.pNone, DL.pSome, DL.dTup, DL.dOf, DL.fLst, DL.fComp, DL.fItems, DL.wipeS, DL.iSeq, DL.iR1, DL.iR2, DL.iZip, DL.xVal, DL.xNil, DL.dIf, DL.gN, DL.gT, DL.gsN, DL.gsC, DL.aStar, DL.M.pure_bind, DL.M.lift_some, DL.toB_bl, DL.toI_int, DL.fits_map, DL.fits_nil, List.map_cons, List.map_nil, List.replicate, List.cons_append, List.nil_append, Nat.sub_zero, Nat.reduceSub, List.getElem?_cons_zero, List.getElem?_cons_succ, List.length_cons, List.length_nil, Nat.zero_add, Nat.reduceAdd, if_true, List.set_cons_zero, List.set_cons_succ, Option.bind_some, DL.items_tup, DL.items_lst, Bool.false_eq_true, if_false, Bool.not_true, Bool.not_false, Bool.true_and, Bool.and_true, Bool.false_and, DL.dTop, rangeD_eq, a1]
    rw [show ((wd + 1 : Nat) : Int) - 1 = (wd : Nat) by omega, Int.toNat_natCast]
    refine congrArg M.pure (List.map_congr_left fun i _ => ?_)
    show D.int _ = D.int _
    congr 1
  have lz : (nx2 r1 r2 (p, q)).length = wd := by unfold nx2; rw [List.length_zip, o1.nx_len hp, o2.nx_len hq, Nat.min_self]
  obtain ⟨ρ2, τ2, q1, q2⟩ := for_nx (g := gN 15) (τ := τ) (b := sSeq (sSet 16 (dTup (aCons (dOp ixD (dOp ixD (dOp ixD (dVar 3) (dC (.int 0))) (dVar 13)) (dOp subD (dVar 15) (dC (.int 1)))) (aCons (dOp ixD (dOp ixD (dOp ixD (dVar 5) (dC (.int 0))) (dVar 14)) (dOp subD (dVar 15) (dC (.int 1)))) aNil))))
    (sIf (dB (dOp ninD (dVar 16) (dTop 10))) (sSeq (ownAt 10 (sApp 10 (dVar 16)))
    (ownAt 8 (sApp 8 (dOp addD (dTup (aCons (dOp addD (dVar 12) (dTup (aCons (dVar 15) aNil))) aNil)) (dVar 16))))) sNil)) hi2
    (fun i ρ τ2 => τ2 = τ ∧ i ≤ wd ∧ Lin2 r1.length r2.length (t + 1) (wgrow u 1 ((nx2 r1 r2 (p, q)).take i) line) ∧ ∃ s15 s16, ρ = [s0, .d .tin, .d (ni wd), .d (mD true true true true r1 e1), s4, .d (mD true true true true r2 e2), s6, s7, .own (LC (wgrow u 1 ((nx2 r1 r2 (p, q)).take i) line)), .d fd, .own (SC (wgrow u 1 ((nx2 r1 r2 (p, q)).take i) line)), .d (ni t), .d (ns true u), .d (ni p), .d (ni q), s15, s16, .un, .un, .un, .un, .un, .un])
    ⟨rfl, Nat.zero_le _, ⟨P.nd, P.lt, fun x hx => Nat.le_succ_of_le (P.le x hx)⟩, u15, u16, rfl⟩ (by
      rintro i x ρ τ2 hi ⟨rfl, hil, Q, t15, t16, rfl⟩
      obtain ⟨hlt, rfl⟩ := List.getElem?_eq_some_iff.mp hi
      rw [List.length_range] at hlt
      rw [List.getElem_range]
      let g : Nat × Nat := ((nx r1 p).getD i 0, (nx r2 q).getD i 0)
      have hz : (nx2 r1 r2 (p, q))[i]? = some g := by
        unfold nx2
        rw [List.getElem?_zip_eq_some]
        exact ⟨getD_some (by rw [o1.nx_len hp]; exact hlt), getD_some (by rw [o2.nx_len hq]; exact hlt)⟩
      have hg : g.1 < r1.length ∧ g.2 < r2.length := ⟨o1.nx_lt hp _ (List.mem_of_getElem? (getD_some (by rw [o1.nx_len hp]; exact hlt))), o2.nx_lt hq _ (List.mem_of_getElem? (getD_some (by rw [o2.nx_len hq]; exact hlt)))⟩
      have tk : (nx2 r1 r2 (p, q)).take (i + 1) = (nx2 r1 r2 (p, q)).take i ++ [g] := by rw [List.take_succ, hz]; rfl
      have htl : ((nx2 r1 r2 (p, q)).take i).length = i := by rw [List.length_take]; omega
      have gs : wgrow u 1 ((nx2 r1 r2 (p, q)).take (i + 1)) line = wadd (wgrow u 1 ((nx2 r1 r2 (p, q)).take i) line) u (1 + i) g := by
        rw [tk, wgrow_snoc, htl]
      have ll := Q.len
      have lm : r1.length * r2.length ≤ 6 * 7 := Nat.mul_le_mul h1 h2
      have z3 : (SC (wgrow u 1 ((nx2 r1 r2 (p, q)).take i) line)).length < sizeLine := by unfold SC; rw [List.length_map]; exact Nat.lt_of_lt_of_le (show _ < 1000000 by omega) size2000
      have z4 : (LC (wgrow u 1 ((nx2 r1 r2 (p, q)).take i) line)).length < sizeLine := by unfold LC; rw [List.length_map]; exact Nat.lt_of_lt_of_le (show _ < 1000000 by omega) size2000
      have a1 : subD (ni (1 + i)) (.int 1) = some (ni i) := by rw [sub1_ni (by omega)]; congr 2; omega
      have i1 : ixD (nss true true r1) (ni p) = some (ns true (nx r1 p)) := ix_nss hp
      have i2 : ixD (nss true true r2) (ni q) = some (ns true (nx r2 q)) := ix_nss hq
      have i3 : ixD (ns true (nx r1 p)) (ni i) = some (ni g.1) := ix_ns (by rw [o1.nx_len hp]; exact hlt)
      have i4 : ixD (ns true (nx r2 q)) (ni i) = some (ni g.2) := ix_ns (by rw [o2.nx_len hq]; exact hlt)
      have f1 : ∀ x : D, fits [x] = true := fun _ => rfl
      have f2 : ∀ x y : D, fits [x, y] = true := fun _ _ => rfl
      have ht : u.map ni ++ [ni (1 + i)] = (u ++ [1 + i]).map ni := by rw [List.map_append]; rfl
      have b1 : addD (ns true u) (.tup [ni (1 + i)]) = some (ns true (u ++ [1 + i])) := by
        refine (add_tups (u.map ni) [ni (1 + i)] (by rw [List.length_map, List.length_singleton]; omega)).trans ?_
        rw [ht]
        rfl
      have b2 : addD (.tup [ns true (u ++ [1 + i])]) (.tup [ni g.1, ni g.2]) = some (.tup [ns true (u ++ [1 + i]), ni g.1, ni g.2]) := add_tups [_] [_, _] (by show 3 ≤ 1000000; omega)
      refine ⟨_, [s0, .d .tin, .d (ni wd), .d (mD true true true true r1 e1), s4, .d (mD true true true true r2 e2), s6, s7, .own (LC (wgrow u 1 ((nx2 r1 r2 (p, q)).take (i + 1)) line)), .d fd, .own (SC (wgrow u 1 ((nx2 r1 r2 (p, q)).take (i + 1)) line)), .d (ni t), .d (ns true u), .d (ni p), .d (ni q), .d (ni (1 + i)), .d (.tup [ni g.1, ni g.2]), .un, .un, .un, .un, .un, .un], τ2, rfl, ?_, rfl, hlt, ?_, _, _, rfl⟩
      · rw [gs]
        unfold wadd
        by_cases hm : g ∈ (wgrow u 1 ((nx2 r1 r2 (p, q)).take i) line).map (·.2)
        · rw [if_pos hm]
          have hn := nin_SC g (wgrow u 1 ((nx2 r1 r2 (p, q)).take i) line) false ⟨fun z => Bool.noConfusion z, fun z => absurd hm z⟩
          simp (implicitDefEqProofs := false) only [DL.sSeq, DL.seqO, DL.sIf, DL.sRet, DL.sSet, DL.sExpr, DL.sNo, DL.sNil, DL.sMany, DL.setS, DL.sAsg, DL.bO_pure, DL.dVar, DL.dC, DL.dOp, DL.dCB, DL.dCall, DL.aCons, DL.aNil, DL.dB, DL.bAnd, DL.bOr, DL.bNot, DL.dAnd, DL.dOr, DL.dNot, DL.dNeg, DL.dChain, DL.dIsi, DL.dIsi2, DL.tyD, DL.Ty.isa, DL.dSlice, DL.pNone, DL.pSome, DL.dTup, DL.dOf, DL.fLst, DL.fComp, DL.fItems, DL.wipeS, DL.iSeq, DL.iR1, DL.iR2, DL.iZip, DL.xVal, DL.xNil, DL.dIf, DL.gN, DL.gT, DL.gsN, DL.gsC, DL.aStar, DL.M.pure_bind, DL.M.lift_some, DL.toB_bl, DL.toI_int, DL.fits_map, DL.fits_nil, List.map_cons, List.map_nil, List.replicate, List.cons_append, List.nil_append, Nat.sub_zero, Nat.reduceSub, List.getElem?_cons_zero, List.getElem?_cons_succ, List.length_cons, List.length_nil, Nat.zero_add, Nat.reduceAdd, if_true, List.set_cons_zero, List.set_cons_succ, Option.bind_some, DL.items_tup, DL.items_lst, Bool.false_eq_true, if_false, Bool.not_true, Bool.not_false, Bool.true_and, Bool.and_true, Bool.false_and, DL.dTop, DL.items_sq, DL.len_sq, List.length_map, DL.ix_sq0, DL.ix_sq1, DL.in_ns, DL.nin_ns, DL.eqD_ni, DL.neD_ni, DL.add_ni, DL.lt_ni, DL.le_ni, DL.tuple_sq, DL.int_bl, DL.rangeD_0, Int.toNat_natCast, DL.comp_n, DL.comp_nt, DL.comp_2, DL.comp_2t, DL.mapMM_pure, DL.filtMM_pure, DL.ifp_and, DL.ifp_or, DL.ifd_and, DL.ifd_or, DL.filtMM_yes, a1, i1, i2, i3, i4, f1, f2, hn]
        · rw [if_neg hm]
          have hn := nin_SC g (wgrow u 1 ((nx2 r1 r2 (p, q)).take i) line) true ⟨fun _ => hm, fun _ => rfl⟩
          simp (implicitDefEqProofs := false) only [DL.sSeq, DL.seqO, DL.sIf, DL.sRet, DL.sSet, DL.sExpr, DL.sNo, DL.sNil, DL.sMany, DL.setS, DL.sAsg, DL.bO_pure, DL.dVar, DL.dC, DL.dOp, DL.dCB, DL.dCall, DL.aCons, DL.aNil, DL.dB, DL.bAnd, DL.bOr, DL.bNot, DL.dAnd, DL.dOr, DL.dNot, DL.dNeg, DL.dChain, DL.dIsi, DL.dIsi2, DL.tyD, DL.Ty.isa, DL.dSlice, DL.pNone, DL.pSome, DL.dTup, DL.dOf, DL.fLst, DL.fComp, DL.fItems, DL.wipeS, DL.iSeq, DL.iR1, DL.iR2, DL.iZip, DL.xVal, DL.xNil, DL.dIf, DL.gN, DL.gT, DL.gsN, DL.gsC, DL.aStar, DL.M.pure_bind, DL.M.lift_some, DL.toB_bl, DL.toI_int, DL.fits_map, DL.fits_nil, List.map_cons, List.map_nil, List.replicate, List.cons_append, List.nil_append, Nat.sub_zero, Nat.reduceSub, List.getElem?_cons_zero, List.getElem?_cons_succ, List.length_cons, List.length_nil, Nat.zero_add, Nat.reduceAdd, if_true, List.set_cons_zero, List.set_cons_succ, Option.bind_some, DL.items_tup, DL.items_lst, Bool.false_eq_true, if_false, Bool.not_true, Bool.not_false, Bool.true_and, Bool.and_true, Bool.false_and, DL.dTop, DL.items_sq, DL.len_sq, List.length_map, DL.ix_sq0, DL.ix_sq1, DL.in_ns, DL.nin_ns, DL.eqD_ni, DL.neD_ni, DL.add_ni, DL.lt_ni, DL.le_ni, DL.tuple_sq, DL.int_bl, DL.rangeD_0, Int.toNat_natCast, DL.comp_n, DL.comp_nt, DL.comp_2, DL.comp_2t, DL.mapMM_pure, DL.filtMM_pure, DL.ifp_and, DL.ifp_or, DL.ifd_and, DL.ifd_or, DL.filtMM_yes, a1, i1, i2, i3, i4, f1, f2, hn, ownAt, sApp, upOwn, z3, z4, b1, b2]
          unfold LC SC
          rw [List.map_append, List.map_append]
          rfl
      · rw [gs]
        exact Q.add (by omega) hg)
  obtain ⟨rfl, _, Q, t15, t16, rfl⟩ := q2
  rw [List.length_range, ← lz, List.take_length] at Q q1
  rw [lz] at q1
  exact ⟨t15, t16, q1, Q⟩
abbrev AC (e1 e2 : List Nat) : Nat × Nat → Bool := fun p => decide (p.1 ∈ e1) != decide (p.2 ∈ e2)
theorem v_l8 {s0 s4 s6 s7 : S} {τ : Tin} (hw : wd ≤ 3) (o1 : Ok wd r1) (o2 : Ok wd r2) (h1 : r1.length ≤ 6) (h2 : r2.length ≤ 7) :
    ∃ s8 s10 s11 s12 s13 s14 s15 s16, l_8 [s0, .d .tin, .d (ni wd), .d (mD true true true true r1 e1), s4, .d (mD true true true true r2 e2), s6, s7, .own (LC [([], 0, 0)]), .d .non, .own (SC [([], 0, 0)]), .un, .un, .un, .un, .un, .un, .un, .un, .un, .un, .un, .un] τ = .nx [s0, .d .tin, .d (ni wd), .d (mD true true true true r1 e1), s4, .d (mD true true true true r2 e2), s6, s7, s8, .d (optT (partOf 60 r1 r2 e1 e2)), s10, s11, s12, s13, s14, s15, s16, .un, .un, .un, .un, .un, .un] τ := by
  have hr : ∀ ρ : DL.Env, iR1 (dC (.int 60)) ρ = M.pure ((List.range 60).map ni) := fun ρ => by
    show M.pure (rangeD 0 60) = _
    rw [rangeD_0]
  have lm : r1.length * r2.length ≤ 6 * 7 := Nat.mul_le_mul h1 h2
  obtain ⟨ρ2, τ2, q1, rfl, q2⟩ := for_nx (τ := τ) (g := gN 11) (b := sIf (bAnd (dB (dOp isND (dVar 9) (dC .non))) (dB (dOp ltD (dVar 11) (dCB lenD (aCons (dTop 8) aNil))))) (sSeq (sAsg (dOp ixD (dTop 8) (dVar 11)) (gT 3 (gsC (gN 12) (gsC (gN 13) (gsC (gN 14) gsN)))))
    (sSeq (sIf (dB (dOp neD (dOp inD (dVar 13) (dOp ixD (dVar 3) (dC (.int 1)))) (dOp inD (dVar 14) (dOp ixD (dVar 5) (dC (.int 1)))))) (sSet 9 (dVar 12)) sNil)
    (sFor (iR2 (dC (.int 1)) (dOp addD (dVar 2) (dC (.int 1)))) (gN 15) (sSeq (sSet 16 (dTup (aCons (dOp ixD (dOp ixD (dOp ixD (dVar 3) (dC (.int 0))) (dVar 13)) (dOp subD (dVar 15) (dC (.int 1)))) (aCons (dOp ixD (dOp ixD (dOp ixD (dVar 5) (dC (.int 0))) (dVar 14)) (dOp subD (dVar 15) (dC (.int 1)))) aNil))))
    (sIf (dB (dOp ninD (dVar 16) (dTop 10))) (sSeq (ownAt 10 (sApp 10 (dVar 16)))
    (ownAt 8 (sApp 8 (dOp addD (dTup (aCons (dOp addD (dVar 12) (dTup (aCons (dVar 15) aNil))) aNil)) (dVar 16))))) sNil))))) sNil)
    (hr [s0, .d .tin, .d (ni wd), .d (mD true true true true r1 e1), s4, .d (mD true true true true r2 e2), s6, s7, .own (LC [([], 0, 0)]), .d .non, .own (SC [([], 0, 0)]), .un, .un, .un, .un, .un, .un, .un, .un, .un, .un, .un, .un])
    (fun t ρ τ2 => τ2 = τ ∧ ((∃ line s11 s12 s13 s14 s15 s16, Lin2 r1.length r2.length t line ∧ wbfs (nx2 r1 r2) (AC e1 e2) (60 - t) t line = partOf 60 r1 r2 e1 e2 ∧ ρ = [s0, .d .tin, .d (ni wd), .d (mD true true true true r1 e1), s4, .d (mD true true true true r2 e2), s6, s7, .own (LC line), .d .non, .own (SC line), s11, s12, s13, s14, s15, s16, .un, .un, .un, .un, .un, .un]) ∨ ∃ u s8 s10 s11 s12 s13 s14 s15 s16, partOf 60 r1 r2 e1 e2 = some u ∧ ρ = [s0, .d .tin, .d (ni wd), .d (mD true true true true r1 e1), s4, .d (mD true true true true r2 e2), s6, s7, s8, .d (ns true u), s10, s11, s12, s13, s14, s15, s16, .un, .un, .un, .un, .un, .un]))
    ⟨rfl, .inl ⟨[([], 0, 0)], .un, .un, .un, .un, .un, .un, ⟨by simp, fun x hx => by rw [List.mem_singleton.mp hx]; exact ⟨o1.pos, o2.pos⟩, fun x hx => by rw [List.mem_singleton.mp hx]; exact Nat.le_refl _⟩, rfl, rfl⟩⟩ (by
      rintro t x ρ τ2 hi ⟨rfl, hI⟩
      obtain ⟨hlt, rfl⟩ := List.getElem?_eq_some_iff.mp hi
      rw [List.length_range] at hlt
      rw [List.getElem_range]
      rcases hI with ⟨line, s11, s12, s13, s14, s15, s16, P, hb, rfl⟩ | ⟨u, s8, s10, s11, s12, s13, s14, s15, s16, hp, rfl⟩
      · have hl : lenD [.lst (LC line)] = some (ni line.length) := by
          show some (D.int ((LC line).length : Nat)) = _
          unfold LC
          rw [List.length_map]
        have i1 : isND .non .non = some (.bl true) := rfl
        have hc : bAnd (dB (dOp isND (dVar 9) (dC .non))) (dB (dOp ltD (dVar 11) (dCB lenD (aCons (dTop 8) aNil)))) [s0, .d .tin, .d (ni wd), .d (mD true true true true r1 e1), s4, .d (mD true true true true r2 e2), s6, s7, .own (LC line), .d .non, .own (SC line), .d (ni t), s12, s13, s14, s15, s16, .un, .un, .un, .un, .un, .un] = M.pure (decide (t < line.length)) := by
          simp (implicitDefEqProofs := false) only [DL.sSeq, DL.seqO, DL.sIf, DL.sRet, DL.sSet, DL.sExpr, DL.sNo, DL.sNil, DL.sMany, DL.setS, DL.sAsg, DL.bO_pure, DL.dVar, DL.dC, DL.dOp, DL.dCB, DL.dCall, DL.aCons, DL.aNil, DL.dB, DL.bAnd, DL.bOr, DL.bNot, DL.dAnd, DL.dOr, DL.dNot, DL.dNeg, DL.dChain, DL.dIsi, DL.dIsi2, DL.tyD, DL.Ty.isa, DL.dSlice, DL.pNone, DL.pSome, DL.dTup, DL.dOf, DL.fLst, DL.fComp, DL.fItems, DL.wipeS, DL.iSeq, DL.iR1, DL.iR2, DL.iZip, DL.xVal, DL.xNil, DL.dIf, DL.gN, DL.gT, DL.gsN, DL.gsC, DL.aStar, DL.M.pure_bind, DL.M.lift_some, DL.toB_bl, DL.toI_int, DL.fits_map, DL.fits_nil, List.map_cons, List.map_nil, List.replicate, List.cons_append, List.nil_append, Nat.sub_zero, Nat.reduceSub, List.getElem?_cons_zero, List.getElem?_cons_succ, List.length_cons, List.length_nil, Nat.zero_add, Nat.reduceAdd, if_true, List.set_cons_zero, List.set_cons_succ, Option.bind_some, DL.items_tup, DL.items_lst, Bool.false_eq_true, if_false, Bool.not_true, Bool.not_false, Bool.true_and, Bool.and_true, Bool.false_and, DL.dTop, DL.items_sq, DL.len_sq, List.length_map, DL.ix_sq0, DL.ix_sq1, DL.in_ns, DL.nin_ns, DL.eqD_ni, DL.neD_ni, DL.add_ni, DL.lt_ni, DL.le_ni, DL.tuple_sq, DL.int_bl, DL.rangeD_0, Int.toNat_natCast, DL.comp_n, DL.comp_nt, DL.comp_2, DL.comp_2t, DL.mapMM_pure, DL.filtMM_pure, DL.ifp_and, DL.ifp_or, DL.ifd_and, DL.ifd_or, DL.filtMM_yes, i1, hl]
        by_cases hL : t < line.length
        · obtain ⟨⟨u, p, q⟩, hu⟩ : ∃ x, line[t]? = some x := ⟨_, List.getElem?_eq_getElem hL⟩
          have hmem := List.mem_of_getElem? hu
          have hpq := P.lt _ hmem
          have hul : u.length ≤ t := P.le _ hmem
          have hp : p < r1.length := hpq.1
          have hq : q < r2.length := hpq.2
          have hx : ixD (.lst (LC line)) (ni t) = some (.tup [ns true u, ni p, ni q]) := by
            show ixD (.lst (line.map fun x => D.tup [ns true x.1, ni x.2.1, ni x.2.2])) (.int (t : Int)) = _
            rw [ix_lst, hu]
            rfl
          have hstep : wbfs (nx2 r1 r2) (AC e1 e2) (60 - t) t line = if AC e1 e2 (p, q) = true then some u else wbfs (nx2 r1 r2) (AC e1 e2) (60 - (t + 1)) (t + 1) (wgrow u 1 (nx2 r1 r2 (p, q)) line) := by
            rw [show 60 - t = 60 - (t + 1) + 1 by omega, wbfs, hu]
          have n1 : inD (ni p) (ns true e1) = some (.bl (decide (p ∈ e1))) := in_ns true p e1
          have n2 : inD (ni q) (ns true e2) = some (.bl (decide (q ∈ e2))) := in_ns true q e2
          have n3 : neD (.bl (decide (p ∈ e1))) (.bl (decide (q ∈ e2))) = some (.bl (AC e1 e2 (p, q))) := neD_bls _ _
          let fd : D := if AC e1 e2 (p, q) = true then ns true u else .non
          have hI1 : sIf (dB (dOp neD (dOp inD (dVar 13) (dOp ixD (dVar 3) (dC (.int 1)))) (dOp inD (dVar 14) (dOp ixD (dVar 5) (dC (.int 1)))))) (sSet 9 (dVar 12)) sNil [s0, .d .tin, .d (ni wd), .d (mD true true true true r1 e1), s4, .d (mD true true true true r2 e2), s6, s7, .own (LC line), .d .non, .own (SC line), .d (ni t), .d (ns true u), .d (ni p), .d (ni q), s15, s16, .un, .un, .un, .un, .un, .un] τ2 = .nx [s0, .d .tin, .d (ni wd), .d (mD true true true true r1 e1), s4, .d (mD true true true true r2 e2), s6, s7, .own (LC line), .d fd, .own (SC line), .d (ni t), .d (ns true u), .d (ni p), .d (ni q), s15, s16, .un, .un, .un, .un, .un, .un] τ2 := by
            by_cases hA : AC e1 e2 (p, q) = true
            · simp (implicitDefEqProofs := false) only [DL.sSeq, DL.seqO, DL.sIf, DL.sRet, DL.sSet, DL.sExpr, DL.sNo, DL.sNil, DL.sMany, DL.setS, DL.sAsg, DL.bO_pure, DL.dVar, DL.dC, DL.dOp, DL.dCB, DL.dCall, DL.aCons, DL.aNil, DL.dB, DL.bAnd, DL.bOr, DL.bNot, DL.dAnd, DL.dOr, DL.dNot, DL.dNeg, DL.dChain, DL.dIsi, DL.dIsi2, DL.tyD, DL.Ty.isa, DL.dSlice, DL.pNone, DL.pSome, DL.dTup, DL.dOf, DL.fLst, DL.fComp, DL.fItems, DL.wipeS, DL.iSeq, DL.iR1, DL.iR2, DL.iZip, DL.xVal, DL.xNil, DL.dIf, DL.gN, DL.gT, DL.gsN, DL.gsC, DL.aStar, DL.M.pure_bind, DL.M.lift_some, DL.toB_bl, DL.toI_int, DL.fits_map, DL.fits_nil, List.map_cons, List.map_nil, List.replicate, List.cons_append, List.nil_append, Nat.sub_zero, Nat.reduceSub, List.getElem?_cons_zero, List.getElem?_cons_succ, List.length_cons, List.length_nil, Nat.zero_add, Nat.reduceAdd, if_true, List.set_cons_zero, List.set_cons_succ, Option.bind_some, DL.items_tup, DL.items_lst, Bool.false_eq_true, if_false, Bool.not_true, Bool.not_false, Bool.true_and, Bool.and_true, Bool.false_and, DL.dTop, DL.items_sq, DL.len_sq, List.length_map, DL.ix_sq0, DL.ix_sq1, DL.in_ns, DL.nin_ns, DL.eqD_ni, DL.neD_ni, DL.add_ni, DL.lt_ni, DL.le_ni, DL.tuple_sq, DL.int_bl, DL.rangeD_0, Int.toNat_natCast, DL.comp_n, DL.comp_nt, DL.comp_2, DL.comp_2t, DL.mapMM_pure, DL.filtMM_pure, DL.ifp_and, DL.ifp_or, DL.ifd_and, DL.ifd_or, DL.filtMM_yes, n1, n2, n3, hA, fd]
            · simp (implicitDefEqProofs := false) only [DL.sSeq, DL.seqO, DL.sIf, DL.sRet, DL.sSet, DL.sExpr, DL.sNo, DL.sNil, DL.sMany, DL.setS, DL.sAsg, DL.bO_pure, DL.dVar, DL.dC, DL.dOp, DL.dCB, DL.dCall, DL.aCons, DL.aNil, DL.dB, DL.bAnd, DL.bOr, DL.bNot, DL.dAnd, DL.dOr, DL.dNot, DL.dNeg, DL.dChain, DL.dIsi, DL.dIsi2, DL.tyD, DL.Ty.isa, DL.dSlice, DL.pNone, DL.pSome, DL.dTup, DL.dOf, DL.fLst, DL.fComp, DL.fItems, DL.wipeS, DL.iSeq, DL.iR1, DL.iR2, DL.iZip, DL.xVal, DL.xNil, DL.dIf, DL.gN, DL.gT, DL.gsN, DL.gsC, DL.aStar, DL.M.pure_bind, DL.M.lift_some, DL.toB_bl, DL.toI_int, DL.fits_map, DL.fits_nil, List.map_cons, List.map_nil, List.replicate, List.cons_append, List.nil_append, Nat.sub_zero, Nat.reduceSub, List.getElem?_cons_zero, List.getElem?_cons_succ, List.length_cons, List.length_nil, Nat.zero_add, Nat.reduceAdd, if_true, List.set_cons_zero, List.set_cons_succ, Option.bind_some, DL.items_tup, DL.items_lst, Bool.false_eq_true, if_false, Bool.not_true, Bool.not_false, Bool.true_and, Bool.and_true, Bool.false_and, DL.dTop, DL.items_sq, DL.len_sq, List.length_map, DL.ix_sq0, DL.ix_sq1, DL.in_ns, DL.nin_ns, DL.eqD_ni, DL.neD_ni, DL.add_ni, DL.lt_ni, DL.le_ni, DL.tuple_sq, DL.int_bl, DL.rangeD_0, Int.toNat_natCast, DL.comp_n, DL.comp_nt, DL.comp_2, DL.comp_2t, DL.mapMM_pure, DL.filtMM_pure, DL.ifp_and, DL.ifp_or, DL.ifd_and, DL.ifd_or, DL.filtMM_yes, n1, n2, n3, hA, fd]
          obtain ⟨t15, t16, q1, Q⟩ := v_l8_in (s0 := s0) (s4 := s4) (s6 := s6) (s7 := s7) (fd := fd) (u15 := s15) (u16 := s16) (e1 := e1) (e2 := e2) (τ := τ2) hw o1 o2 h1 h2 P hp hq hul hlt
          refine ⟨_, _, τ2, rfl, (?_ : _ = O.nx [s0, .d .tin, .d (ni wd), .d (mD true true true true r1 e1), s4, .d (mD true true true true r2 e2), s6, s7, .own (LC (wgrow u 1 (nx2 r1 r2 (p, q)) line)), .d fd, .own (SC (wgrow u 1 (nx2 r1 r2 (p, q)) line)), .d (ni t), .d (ns true u), .d (ni p), .d (ni q), t15, t16, .un, .un, .un, .un, .un, .un] τ2), rfl, ?_⟩
          · unfold sIf
            show bO (bAnd _ _ [s0, .d .tin, .d (ni wd), .d (mD true true true true r1 e1), s4, .d (mD true true true true r2 e2), s6, s7, .own (LC line), .d .non, .own (SC line), .d (ni t), s12, s13, s14, s15, s16, .un, .un, .un, .un, .un, .un]) _ _ _ = _
            rw [hc, bO_pure, if_pos (decide_eq_true hL)]
            refine st_asg (d := .tup [ns true u, ni p, ni q]) (ρ1 := [s0, .d .tin, .d (ni wd), .d (mD true true true true r1 e1), s4, .d (mD true true true true r2 e2), s6, s7, .own (LC line), .d .non, .own (SC line), .d (ni t), .d (ns true u), .d (ni p), .d (ni q), s15, s16, .un, .un, .un, .un, .un, .un]) (by simp (implicitDefEqProofs := false) only [DL.sSeq, DL.seqO, DL.sIf, DL.sRet, DL.sSet, DL.sExpr, DL.sNo, DL.sNil, DL.sMany, DL.setS, DL.sAsg, DL.bO_pure, DL.dVar, DL.dC, DL.dOp, DL.dCB, DL.dCall, DL.aCons, DL.aNil, DL.dB, DL.bAnd, DL.bOr, DL.bNot, DL.dAnd, DL.dOr, DL.dNot, DL.dNeg, DL.dChain, DL.dIsi, DL.dIsi2, DL.tyD, DL.Ty.isa, DL.dSlice, DL.pNone, DL.pSome, DL.dTup, DL.dOf, DL.fLst, DL.fComp, DL.fItems, DL.wipeS, DL.iSeq, DL.iR1, DL.iR2, DL.iZip, DL.xVal, DL.xNil, DL.dIf, DL.gN, DL.gT, DL.gsN, DL.gsC, DL.aStar, DL.M.pure_bind, DL.M.lift_some, DL.toB_bl, DL.toI_int, DL.fits_map, DL.fits_nil, List.map_cons, List.map_nil, List.replicate, List.cons_append, List.nil_append, Nat.sub_zero, Nat.reduceSub, List.getElem?_cons_zero, List.getElem?_cons_succ, List.length_cons, List.length_nil, Nat.zero_add, Nat.reduceAdd, if_true, List.set_cons_zero, List.set_cons_succ, Option.bind_some, DL.items_tup, DL.items_lst, Bool.false_eq_true, if_false, Bool.not_true, Bool.not_false, Bool.true_and, Bool.and_true, Bool.false_and, DL.dTop, hx]) rfl ?_
            exact st_do hI1 q1
          · by_cases hA : AC e1 e2 (p, q) = true
            · rw [if_pos hA] at hstep
              refine .inr ⟨u, .own (LC (wgrow u 1 (nx2 r1 r2 (p, q)) line)), .own (SC (wgrow u 1 (nx2 r1 r2 (p, q)) line)), .d (ni t), .d (ns true u), .d (ni p), .d (ni q), t15, t16, hb.symm.trans hstep, ?_⟩
              rw [show fd = ns true u from if_pos hA]
            · rw [if_neg hA] at hstep
              refine .inl ⟨wgrow u 1 (nx2 r1 r2 (p, q)) line, .d (ni t), .d (ns true u), .d (ni p), .d (ni q), t15, t16, Q, hstep.symm.trans hb, ?_⟩
              rw [show fd = .non from if_neg hA]
        · refine ⟨_, [s0, .d .tin, .d (ni wd), .d (mD true true true true r1 e1), s4, .d (mD true true true true r2 e2), s6, s7, .own (LC line), .d .non, .own (SC line), .d (ni t), s12, s13, s14, s15, s16, .un, .un, .un, .un, .un, .un], τ2, rfl, ?_, rfl, .inl ⟨line, _, _, _, _, _, _, ⟨P.nd, P.lt, fun x hx => Nat.le_succ_of_le (P.le x hx)⟩, ?_, rfl⟩⟩
          · unfold sIf
            show bO (bAnd _ _ [s0, .d .tin, .d (ni wd), .d (mD true true true true r1 e1), s4, .d (mD true true true true r2 e2), s6, s7, .own (LC line), .d .non, .own (SC line), .d (ni t), s12, s13, s14, s15, s16, .un, .un, .un, .un, .un, .un]) _ _ _ = _
            rw [hc, bO_pure, decide_eq_false hL, if_neg (by decide)]
            rfl
          · rw [← hb]
            have hn : line[t]? = none := List.getElem?_eq_none (by omega)
            have hn2 : line[t + 1]? = none := List.getElem?_eq_none (by omega)
            rw [show 60 - t = 60 - (t + 1) + 1 by omega, wbfs, hn]
            cases 60 - (t + 1) with
            | zero => rfl
            | succ k => rw [wbfs, hn2]
      · have i1 : isND (ns true u) .non = some (.bl false) := rfl
        refine ⟨_, [s0, .d .tin, .d (ni wd), .d (mD true true true true r1 e1), s4, .d (mD true true true true r2 e2), s6, s7, s8, .d (ns true u), s10, .d (ni t), s12, s13, s14, s15, s16, .un, .un, .un, .un, .un, .un], τ2, rfl, ?_, rfl, .inr ⟨u, _, _, _, _, _, _, _, _, hp, rfl⟩⟩
        simp (implicitDefEqProofs := false) only [DL.sSeq, DL.seqO, DL.sIf, DL.sRet, DL.sSet, DL.sExpr, DL.sNo, DL.sNil, DL.sMany, DL.setS, DL.sAsg, DL.bO_pure, DL.dVar, DL.dC, DL.dOp, DL.dCB, DL.dCall, DL.aCons, DL.aNil, DL.dB, DL.bAnd, DL.bOr, DL.bNot, DL.dAnd, DL.dOr, DL.dNot, DL.dNeg, DL.dChain, DL.dIsi, DL.dIsi2, DL.tyD, DL.Ty.isa, DL.dSlice, DL.pNone, DL.pSome, DL.dTup, DL.dOf, DL.fLst, DL.fComp, DL.fItems, DL.wipeS, DL.iSeq, DL.iR1, DL.iR2, DL.iZip, DL.xVal, DL.xNil, DL.dIf, DL.gN, DL.gT, DL.gsN, DL.gsC, DL.aStar, DL.M.pure_bind, DL.M.lift_some, DL.toB_bl, DL.toI_int, DL.fits_map, DL.fits_nil, List.map_cons, List.map_nil, List.replicate, List.cons_append, List.nil_append, Nat.sub_zero, Nat.reduceSub, List.getElem?_cons_zero, List.getElem?_cons_succ, List.length_cons, List.length_nil, Nat.zero_add, Nat.reduceAdd, if_true, List.set_cons_zero, List.set_cons_succ, Option.bind_some, DL.items_tup, DL.items_lst, Bool.false_eq_true, if_false, Bool.not_true, Bool.not_false, Bool.true_and, Bool.and_true, Bool.false_and, DL.dTop, DL.items_sq, DL.len_sq, List.length_map, DL.ix_sq0, DL.ix_sq1, DL.in_ns, DL.nin_ns, DL.eqD_ni, DL.neD_ni, DL.add_ni, DL.lt_ni, DL.le_ni, DL.tuple_sq, DL.int_bl, DL.rangeD_0, Int.toNat_natCast, DL.comp_n, DL.comp_nt, DL.comp_2, DL.comp_2t, DL.mapMM_pure, DL.filtMM_pure, DL.ifp_and, DL.ifp_or, DL.ifd_and, DL.ifd_or, DL.filtMM_yes, i1])
  rw [List.length_range] at q2
  rcases q2 with ⟨line, s11, s12, s13, s14, s15, s16, P, hb, rfl⟩ | ⟨u, s8, s10, s11, s12, s13, s14, s15, s16, hp, rfl⟩
  · refine ⟨.own (LC line), .own (SC line), s11, s12, s13, s14, s15, s16, q1.trans ?_⟩
    rw [← hb]
    rfl
  · refine ⟨s8, s10, s11, s12, s13, s14, s15, s16, q1.trans ?_⟩
    rw [hp]
    rfl
end
end K41
end

section
set_option Elab.async false
set_option linter.all false
set_option maxRecDepth 100000
set_option maxHeartbeats 1000000
open PySem PySem.Spec PyProof.Rows L2 DL MA
namespace K41
theorem v_lists_mD {n : Nat} {r : Rows} {e : List Nat} (h1 : r.length ≤ 1000) (h2 : e.length ≤ 1000) (h3 : ∀ x ∈ r, x.length ≤ 1000) : m_law_lists (n + 4) [mD true true true true r e] = M.pure (mD false false false false r e) := by
  have q1 : m_law_lists (n + 3) [nss true true r] = M.pure (nss false false r) := v_lists_tup (j := ns true) (t := ns false) (Nat.le_trans h1 size1000) fun x hx => v_lists_tup (j := ni) (t := ni) (Nat.le_trans (h3 x hx) size1000) fun i _ => v_lists_int _ _
  have q2 : m_law_lists (n + 3) [ns true e] = M.pure (ns false e) := v_lists_tup (j := ni) (t := ni) (Nat.le_trans h2 size1000) fun i _ => v_lists_int _ _
  exact v_lists_tup (j := fun b : Bool => if b = true then nss true true r else ns true e) (t := fun b : Bool => if b = true then nss false false r else ns false e) (xs := [true, false]) (show 2 ≤ sizeLine by decide) fun b _ => by cases b; exact q2; exact q1
theorem okS_mD {n : Nat} {r : Rows} {e : List Nat} (h1 : r.length ≤ 1000) (h2 : e.length ≤ 1000) (h3 : ∀ x ∈ r, x.length ≤ 1000) : okS (n + 4) (mD true true true true r e) := by
  have k : ∀ xs : List Nat, ∀ n, xs.length ≤ 1000 → okS (n + 2) (ns true xs) := fun xs n h => okS_tup (by rw [List.length_map]; exact h) fun x hx => by
    obtain ⟨i, _, rfl⟩ := List.mem_map.mp hx
    exact okS_int _ _
  refine okS_tup (by show 2 ≤ 1000; omega) fun x hx => ?_
  rcases List.mem_cons.mp hx with rfl | hx
  · refine okS_tup (by rw [List.length_map]; exact h1) fun x hx => ?_
    obtain ⟨i, hi, rfl⟩ := List.mem_map.mp hx
    exact k i n (h3 i hi)
  · rw [List.mem_singleton.mp hx]
    exact k e (n + 1) h2
theorem Mach.small {wd n : Nat} {r : Rows} {e : List Nat} (m : Mach wd n r e) (hn : n ≤ 10) (hw : wd ≤ 3) : r.length ≤ 1000 ∧ e.length ≤ 1000 ∧ ∀ x ∈ r, x.length ≤ 1000 := by
  have h1 := m.len
  have h2 : e.length ≤ r.length := nodup_le (m.asc.imp fun h e => by omega) m.lt
  exact ⟨by omega, by omega, fun x hx => by rw [(m.ok.row x hx).1]; omega⟩
theorem caught_of {x : Str} {h : G} {ρ : DL.Env} {τ : Tin} {f : DL.Env → M D} {i : Nat} {d : D} (hf : f ρ τ = .ok d τ) : sTry x (sSet i f) h ρ τ = .nx (ρ.set i (.d d)) τ := by
  unfold sTry sSet
  rw [bO_ok hf]
  rfl
theorem try_exc {x : Str} {ρ : DL.Env} {τ : Tin} {f g : DL.Env → M D} {i j : Nat} {d : D} (hf : f ρ = M.exc x) (hg : g ρ = M.pure d) : sTry x (sSet i f) (sSet j g) ρ τ = .nx (ρ.set j (.d d)) τ := by
  have e : sSet i f ρ τ = .exc x ρ τ := by
    unfold sSet
    rw [hf]
    rfl
  unfold sTry
  rw [e]
  show (if x = x then quiet (sSet j g ρ τ) else .no) = _
  rw [if_pos rfl]
  unfold sSet
  rw [hg, bO_pure]
  rfl

theorem leastE_len (N : Nat) (rows : Rows) (ends : List Nat) : (leastE N rows ends).length ≤ (leastR N rows ends).length := by
  unfold leastE leastR renR renE canE
  rw [can_len]
  refine Nat.le_trans (List.length_filter_le _ _) ?_
  rw [List.length_range]
  exact Nat.le_refl _
abbrev BB (N : Nat) (r1 : Rows) (e1 : List Nat) (r2 : Rows) (e2 : List Nat) : Bool := decide ((leastR N r1 e1, leastE N r1 e1) = (leastR N r2 e2, leastE N r2 e2))
abbrev LL (N : Nat) (r1 : Rows) (e1 : List Nat) (r2 : Rows) (e2 : List Nat) : D := .lst [mD true true true true (leastR N r1 e1) (leastE N r1 e1), mD true true true true (leastR N r2 e2) (leastE N r2 e2)]
abbrev GOT (N : Nat) (r1 : Rows) (e1 : List Nat) (r2 : Rows) (e2 : List Nat) : D := .lst [.bl true, .bl false, mD true true true true (leastR N r1 e1) (leastE N r1 e1), mD true true true true (leastR N r2 e2) (leastE N r2 e2), .bl (BB N r1 e1 r2 e2)]
structure Two (N wd : Nat) (r1 : Rows) (e1 : List Nat) (r2 : Rows) (e2 : List Nat) : Prop where
  n0 : 50 ≤ N
  n1 : N ≤ 10000
  w0 : 0 < wd
  w3 : wd ≤ 3
  m1 : Mach wd 6 r1 e1
  m2 : Mach wd 7 r2 e2
section
variable {N wd : Nat} {r1 r2 : Rows} {e1 e2 : List Nat} {ns : List Int} {τ : Tin} {s4 : S}
theorem v_l3 (T : Two N wd r1 e1 r2 e2) : l_3 [.d (.scr ns), .d .tin, .d (ni wd), .d (mD true true true true r1 e1), s4, .d (mD true true true true r2 e2), .un, .un, .un, .un, .un, .un, .un, .un, .un, .un, .un, .un, .un, .un, .un, .un, .un] τ = .nx [.d (.scr ns), .d .tin, .d (ni wd), .d (mD true true true true r1 e1), s4, .d (mD true true true true r2 e2), .d (LL N r1 e1 r2 e2), .un, .un, .un, .un, .un, .un, .un, .un, .un, .un, .un, .un, .un, .un, .un, .un] τ := by
  have l1 := T.m1.len
  have l2 := T.m2.len
  have hw := T.w3
  have n0 := T.n0
  have n1 := T.n1
  have L1 := v_law_least_of (N := N) (ends := e1) T.m1.ok (by omega) (by omega) (by omega)
  have L2 := v_law_least_of (N := N) (ends := e2) T.m2.ok (by omega) (by omega) (by omega)
  have h := fComp_of (own := [20]) (g := gN 20) (t := bYes) (f := dCall 1 m_law_least_of (aCons (dVar 20) aNil)) (fi := iSeq (dTup (aCons (dVar 3) (aCons (dVar 5) aNil)))) (ρ := [.d (.scr ns), .d .tin, .d (ni wd), .d (mD true true true true r1 e1), s4, .d (mD true true true true r2 e2), .un, .un, .un, .un, .un, .un, .un, .un, .un, .un, .un, .un, .un, .un, .un, .un, .un]) (ds := [(r1, e1), (r2, e2)].map fun p : Rows × List Nat => mD true true true true p.1 p.2) (by
      have f2 : ∀ x y : D, fits [x, y] = true := fun _ _ => rfl
      simp (implicitDefEqProofs := false) only [DL.sSeq, DL.seqO, DL.sIf, DL.sRet, DL.sSet, DL.sExpr, DL.sNo, DL.sNil, DL.sMany, DL.setS, DL.sAsg, DL.bO_pure, DL.dVar, DL.dC, DL.dOp, DL.dCB, DL.dCall, DL.aCons, DL.aNil, DL.dB, DL.bAnd, DL.bOr, DL.bNot, DL.dAnd, DL.dOr, DL.dNot, DL.dNeg, DL.dChain, DL.dIsi, DL.dIsi2, DL.tyD, DL.Ty.isa, DL.dSlice, DL.pNone, DL.pSome, DL.dTup, DL.dOf, DL.fLst, DL.fComp, DL.fItems, DL.wipeS, DL.iSeq, DL.iR1, DL.iR2, DL.iZip, DL.xVal, DL.xNil, DL.dIf, DL.gN, DL.gT, DL.gsN, DL.gsC, DL.aStar, DL.M.pure_bind, DL.M.lift_some, DL.toB_bl, DL.toI_int, DL.fits_map, DL.fits_nil, List.map_cons, List.map_nil, List.replicate, List.cons_append, List.nil_append, Nat.sub_zero, Nat.reduceSub, List.getElem?_cons_zero, List.getElem?_cons_succ, List.length_cons, List.length_nil, Nat.zero_add, Nat.reduceAdd, if_true, List.set_cons_zero, List.set_cons_succ, Option.bind_some, DL.items_tup, DL.items_lst, Bool.false_eq_true, if_false, Bool.not_true, Bool.not_false, Bool.true_and, Bool.and_true, Bool.false_and, DL.dTop, f2]) (by show 2 ≤ sizeLine; decide) ((comp_n 20 _ (fun p : Rows × List Nat => mD true true true true p.1 p.2) [(r1, e1), (r2, e2)] _).trans (mapMM_of (h := fun p : Rows × List Nat => mD true true true true (leastR N p.1 p.2) (leastE N p.1 p.2)) fun p hp => by
        rcases List.mem_cons.mp hp with rfl | hp
        · simp (implicitDefEqProofs := false) only [DL.sSeq, DL.seqO, DL.sIf, DL.sRet, DL.sSet, DL.sExpr, DL.sNo, DL.sNil, DL.sMany, DL.setS, DL.sAsg, DL.bO_pure, DL.dVar, DL.dC, DL.dOp, DL.dCB, DL.dCall, DL.aCons, DL.aNil, DL.dB, DL.bAnd, DL.bOr, DL.bNot, DL.dAnd, DL.dOr, DL.dNot, DL.dNeg, DL.dChain, DL.dIsi, DL.dIsi2, DL.tyD, DL.Ty.isa, DL.dSlice, DL.pNone, DL.pSome, DL.dTup, DL.dOf, DL.fLst, DL.fComp, DL.fItems, DL.wipeS, DL.iSeq, DL.iR1, DL.iR2, DL.iZip, DL.xVal, DL.xNil, DL.dIf, DL.gN, DL.gT, DL.gsN, DL.gsC, DL.aStar, DL.M.pure_bind, DL.M.lift_some, DL.toB_bl, DL.toI_int, DL.fits_map, DL.fits_nil, List.map_cons, List.map_nil, List.replicate, List.cons_append, List.nil_append, Nat.sub_zero, Nat.reduceSub, List.getElem?_cons_zero, List.getElem?_cons_succ, List.length_cons, List.length_nil, Nat.zero_add, Nat.reduceAdd, if_true, List.set_cons_zero, List.set_cons_succ, Option.bind_some, DL.items_tup, DL.items_lst, Bool.false_eq_true, if_false, Bool.not_true, Bool.not_false, Bool.true_and, Bool.and_true, Bool.false_and, DL.dTop, L1]
        · rw [List.mem_singleton.mp hp]
          simp (implicitDefEqProofs := false) only [DL.sSeq, DL.seqO, DL.sIf, DL.sRet, DL.sSet, DL.sExpr, DL.sNo, DL.sNil, DL.sMany, DL.setS, DL.sAsg, DL.bO_pure, DL.dVar, DL.dC, DL.dOp, DL.dCB, DL.dCall, DL.aCons, DL.aNil, DL.dB, DL.bAnd, DL.bOr, DL.bNot, DL.dAnd, DL.dOr, DL.dNot, DL.dNeg, DL.dChain, DL.dIsi, DL.dIsi2, DL.tyD, DL.Ty.isa, DL.dSlice, DL.pNone, DL.pSome, DL.dTup, DL.dOf, DL.fLst, DL.fComp, DL.fItems, DL.wipeS, DL.iSeq, DL.iR1, DL.iR2, DL.iZip, DL.xVal, DL.xNil, DL.dIf, DL.gN, DL.gT, DL.gsN, DL.gsC, DL.aStar, DL.M.pure_bind, DL.M.lift_some, DL.toB_bl, DL.toI_int, DL.fits_map, DL.fits_nil, List.map_cons, List.map_nil, List.replicate, List.cons_append, List.nil_append, Nat.sub_zero, Nat.reduceSub, List.getElem?_cons_zero, List.getElem?_cons_succ, List.length_cons, List.length_nil, Nat.zero_add, Nat.reduceAdd, if_true, List.set_cons_zero, List.set_cons_succ, Option.bind_some, DL.items_tup, DL.items_lst, Bool.false_eq_true, if_false, Bool.not_true, Bool.not_false, Bool.true_and, Bool.and_true, Bool.false_and, DL.dTop, L2]))
  unfold l_3 sSetF
  rw [h, bO_pure]
  rfl
theorem v_l4 (T : Two N wd r1 e1 r2 e2) : l_4 [.d (.scr ns), .d .tin, .d (ni wd), .d (mD true true true true r1 e1), s4, .d (mD true true true true r2 e2), .d (LL N r1 e1 r2 e2), .un, .un, .un, .un, .un, .un, .un, .un, .un, .un, .un, .un, .un, .un, .un, .un] τ = .nx [.d (.scr ns), .d .tin, .d (ni wd), .d (mD true true true true r1 e1), s4, .d (mD true true true true r2 e2), .d (LL N r1 e1 r2 e2), .d (GOT N r1 e1 r2 e2), .un, .un, .un, .un, .un, .un, .un, .un, .un, .un, .un, .un, .un, .un, .un] τ := by
  have l1 := T.m1.len
  have l2 := T.m2.len
  have hw := T.w3
  have n0 := T.n0
  have n1 := T.n1
  obtain ⟨z1, z2, z3⟩ := T.m1.small (by omega) hw
  obtain ⟨z4, z5, z6⟩ := T.m2.small (by omega) hw
  have k1 := v_least (a := true) (b := true) (c := true) (e := true) (N := N) (ends := e1) T.m1.ok (by omega) (by omega) (by omega) (by omega)
  have k2 := v_least (a := false) (b := false) (c := false) (e := false) (N := N) (ends := e2) T.m2.ok (by omega) (by omega) (by omega) (by omega)
  have ka := v_alike (a1 := true) (b1 := true) (c1 := true) (d1 := true) (a2 := true) (b2 := true) (c2 := true) (d2 := true) (N := N) (e1 := e1) (e2 := e2) T.m1.ok T.m2.ok (by omega) (by omega) (by omega) (by omega) (by omega) (by omega)
  have km := v_is_machine T.m1.ok T.w0 hw z1 T.m1.asc T.m1.lt
  have kl : m_law_lists 8 [mD true true true true r1 e1] = M.pure (mD false false false false r1 e1) := v_lists_mD (n := 4) z1 z2 z3
  have kl2 : m_law_lists 8 [mD true true true true r2 e2] = M.pure (mD false false false false r2 e2) := v_lists_mD (n := 4) z4 z5 z6
  have kn : m_is_machine [mD false false false false r1 e1] = M.pure (.bl false) := v_is_machine_no _
  have f5 : ∀ a b c d e : D, fits [a, b, c, d, e] = true := fun _ _ _ _ _ => rfl
  unfold l_4
  simp (implicitDefEqProofs := false) only [DL.sSeq, DL.seqO, DL.sIf, DL.sRet, DL.sSet, DL.sExpr, DL.sNo, DL.sNil, DL.sMany, DL.setS, DL.sAsg, DL.bO_pure, DL.dVar, DL.dC, DL.dOp, DL.dCB, DL.dCall, DL.aCons, DL.aNil, DL.dB, DL.bAnd, DL.bOr, DL.bNot, DL.dAnd, DL.dOr, DL.dNot, DL.dNeg, DL.dChain, DL.dIsi, DL.dIsi2, DL.tyD, DL.Ty.isa, DL.dSlice, DL.pNone, DL.pSome, DL.dTup, DL.dOf, DL.fLst, DL.fComp, DL.fItems, DL.wipeS, DL.iSeq, DL.iR1, DL.iR2, DL.iZip, DL.xVal, DL.xNil, DL.dIf, DL.gN, DL.gT, DL.gsN, DL.gsC, DL.aStar, DL.M.pure_bind, DL.M.lift_some, DL.toB_bl, DL.toI_int, DL.fits_map, DL.fits_nil, List.map_cons, List.map_nil, List.replicate, List.cons_append, List.nil_append, Nat.sub_zero, Nat.reduceSub, List.getElem?_cons_zero, List.getElem?_cons_succ, List.length_cons, List.length_nil, Nat.zero_add, Nat.reduceAdd, if_true, List.set_cons_zero, List.set_cons_succ, Option.bind_some, DL.items_tup, DL.items_lst, Bool.false_eq_true, if_false, Bool.not_true, Bool.not_false, Bool.true_and, Bool.and_true, Bool.false_and, DL.dTop, DL.items_sq, DL.len_sq, List.length_map, DL.ix_sq0, DL.ix_sq1, DL.in_ns, DL.nin_ns, DL.eqD_ni, DL.neD_ni, DL.add_ni, DL.lt_ni, DL.le_ni, DL.tuple_sq, DL.int_bl, DL.rangeD_0, Int.toNat_natCast, DL.comp_n, DL.comp_nt, DL.comp_2, DL.comp_2t, DL.mapMM_pure, DL.filtMM_pure, DL.ifp_and, DL.ifp_or, DL.ifd_and, DL.ifd_or, DL.filtMM_yes, km, kl, kl2, kn, k1, k2, ka, f5]
theorem v_l5 (T : Two N wd r1 e1 r2 e2) : l_5 [.d (.scr ns), .d .tin, .d (ni wd), .d (mD true true true true r1 e1), s4, .d (mD true true true true r2 e2), .d (LL N r1 e1 r2 e2), .d (GOT N r1 e1 r2 e2), .un, .un, .un, .un, .un, .un, .un, .un, .un, .un, .un, .un, .un, .un, .un] τ = .nx [.d (.scr ns), .d .tin, .d (ni wd), .d (mD true true true true r1 e1), s4, .d (mD true true true true r2 e2), .d (LL N r1 e1 r2 e2), .d (GOT N r1 e1 r2 e2), .un, .un, .un, .un, .un, .un, .un, .un, .un, .un, .un, .un, .un, .un, .un] τ := by
  have l1 := T.m1.len
  have l2 := T.m2.len
  have hw := T.w3
  have n0 := T.n0
  have n1 := T.n1
  have i60 : ixD (LL N r1 e1 r2 e2) (.int 0) = some (mD true true true true (leastR N r1 e1) (leastE N r1 e1)) := ix_sq0 false _ _
  have i61 : ixD (LL N r1 e1 r2 e2) (.int 1) = some (mD true true true true (leastR N r2 e2) (leastE N r2 e2)) := ix_sq1 false _ _ _
  have ee : eqD (mD true true true true (leastR N r1 e1) (leastE N r1 e1)) (mD true true true true (leastR N r2 e2) (leastE N r2 e2)) = some (.bl (BB N r1 e1 r2 e2)) := cod_mD.eqD (by omega) (leastR N r1 e1, leastE N r1 e1) (leastR N r2 e2, leastE N r2 e2)
  have f5 : ∀ a b c d e : D, fits [a, b, c, d, e] = true := fun _ _ _ _ _ => rfl
  have sz : ∀ {r : Rows} {e : List Nat}, Ok wd r → r.length ≤ 7 → okS 7 (mD true true true true (leastR N r e) (leastE N r e)) := fun {r e} o h => by
    obtain ⟨g1, g2, g3⟩ := least_ok (N := N) (ends := e) o (by omega)
    exact okS_mD (n := 3) (by omega) (Nat.le_trans (leastE_len N r e) (by omega)) fun x hx => by rw [(g1.row x hx).1]; omega
  have same5 : m_law_same 8 [GOT N r1 e1 r2 e2, GOT N r1 e1 r2 e2] = M.pure (.bl true) := v_same 8 _ (okS_list (by show 5 ≤ 1000; omega) fun x hx => by
    simp only [List.mem_cons, List.not_mem_nil, or_false] at hx
    rcases hx with rfl | rfl | rfl | rfl | rfl
    · exact okS_bl _ _
    · exact okS_bl _ _
    · exact sz T.m1.ok (by omega)
    · exact sz T.m2.ok (by omega)
    · exact okS_bl _ _)
  unfold l_5
  simp (implicitDefEqProofs := false) only [DL.sSeq, DL.seqO, DL.sIf, DL.sRet, DL.sSet, DL.sExpr, DL.sNo, DL.sNil, DL.sMany, DL.setS, DL.sAsg, DL.bO_pure, DL.dVar, DL.dC, DL.dOp, DL.dCB, DL.dCall, DL.aCons, DL.aNil, DL.dB, DL.bAnd, DL.bOr, DL.bNot, DL.dAnd, DL.dOr, DL.dNot, DL.dNeg, DL.dChain, DL.dIsi, DL.dIsi2, DL.tyD, DL.Ty.isa, DL.dSlice, DL.pNone, DL.pSome, DL.dTup, DL.dOf, DL.fLst, DL.fComp, DL.fItems, DL.wipeS, DL.iSeq, DL.iR1, DL.iR2, DL.iZip, DL.xVal, DL.xNil, DL.dIf, DL.gN, DL.gT, DL.gsN, DL.gsC, DL.aStar, DL.M.pure_bind, DL.M.lift_some, DL.toB_bl, DL.toI_int, DL.fits_map, DL.fits_nil, List.map_cons, List.map_nil, List.replicate, List.cons_append, List.nil_append, Nat.sub_zero, Nat.reduceSub, List.getElem?_cons_zero, List.getElem?_cons_succ, List.length_cons, List.length_nil, Nat.zero_add, Nat.reduceAdd, if_true, List.set_cons_zero, List.set_cons_succ, Option.bind_some, DL.items_tup, DL.items_lst, Bool.false_eq_true, if_false, Bool.not_true, Bool.not_false, Bool.true_and, Bool.and_true, Bool.false_and, DL.dTop, DL.items_sq, DL.len_sq, List.length_map, DL.ix_sq0, DL.ix_sq1, DL.in_ns, DL.nin_ns, DL.eqD_ni, DL.neD_ni, DL.add_ni, DL.lt_ni, DL.le_ni, DL.tuple_sq, DL.int_bl, DL.rangeD_0, Int.toNat_natCast, DL.comp_n, DL.comp_nt, DL.comp_2, DL.comp_2t, DL.mapMM_pure, DL.filtMM_pure, DL.ifp_and, DL.ifp_or, DL.ifd_and, DL.ifd_or, DL.filtMM_yes, i60, i61, ee, f5, same5]
end
end K41
end

section
set_option Elab.async false
set_option linter.all false
set_option maxRecDepth 100000
set_option maxHeartbeats 1000000
open PySem PySem.Spec PyProof.Rows L2 DL MA
namespace K41
section
variable {N wd : Nat} {r1 r2 : Rows} {e1 e2 : List Nat} {sc : List Int} {τ : Tin} {s4 s8 s10 s11 s12 s13 s14 s15 s16 s18 s19 : S}
theorem v_l6 : l_6 [.d (.scr sc), .d .tin, .d (ni wd), .d (mD true true true true r1 e1), s4, .d (mD true true true true r2 e2), .d (LL N r1 e1 r2 e2), .d (GOT N r1 e1 r2 e2), .un, .un, .un, .un, .un, .un, .un, .un, .un, .un, .un, .un, .un, .un, .un] τ = .nx [.d (.scr sc), .d .tin, .d (ni wd), .d (mD true true true true r1 e1), s4, .d (mD true true true true r2 e2), .d (LL N r1 e1 r2 e2), .d (GOT N r1 e1 r2 e2), .own (LC [([], 0, 0)]), .d .non, .un, .un, .un, .un, .un, .un, .un, .un, .un, .un, .un, .un, .un] τ := by
  unfold l_6
  have f1 : ∀ x : D, fits [x] = true := fun _ => rfl
  have f3 : ∀ a b c : D, fits [a, b, c] = true := fun _ _ _ => rfl
  simp (implicitDefEqProofs := false) only [DL.sSeq, DL.seqO, DL.sIf, DL.sRet, DL.sSet, DL.sExpr, DL.sNo, DL.sNil, DL.sMany, DL.setS, DL.sAsg, DL.bO_pure, DL.dVar, DL.dC, DL.dOp, DL.dCB, DL.dCall, DL.aCons, DL.aNil, DL.dB, DL.bAnd, DL.bOr, DL.bNot, DL.dAnd, DL.dOr, DL.dNot, DL.dNeg, DL.dChain, DL.dIsi, DL.dIsi2, DL.tyD, DL.Ty.isa, DL.dSlice, DL.pNone, DL.pSome, DL.dTup, DL.dOf, DL.fLst, DL.fComp, DL.fItems, DL.wipeS, DL.iSeq, DL.iR1, DL.iR2, DL.iZip, DL.xVal, DL.xNil, DL.dIf, DL.gN, DL.gT, DL.gsN, DL.gsC, DL.aStar, DL.M.pure_bind, DL.M.lift_some, DL.toB_bl, DL.toI_int, DL.fits_map, DL.fits_nil, List.map_cons, List.map_nil, List.replicate, List.cons_append, List.nil_append, Nat.sub_zero, Nat.reduceSub, List.getElem?_cons_zero, List.getElem?_cons_succ, List.length_cons, List.length_nil, Nat.zero_add, Nat.reduceAdd, if_true, List.set_cons_zero, List.set_cons_succ, Option.bind_some, DL.items_tup, DL.items_lst, Bool.false_eq_true, if_false, Bool.not_true, Bool.not_false, Bool.true_and, Bool.and_true, Bool.false_and, DL.dTop, DL.xOwn, f3, f1]
  rfl
theorem v_l7 : l_7 [.d (.scr sc), .d .tin, .d (ni wd), .d (mD true true true true r1 e1), s4, .d (mD true true true true r2 e2), .d (LL N r1 e1 r2 e2), .d (GOT N r1 e1 r2 e2), .own (LC [([], 0, 0)]), .d .non, .un, .un, .un, .un, .un, .un, .un, .un, .un, .un, .un, .un, .un] τ = .nx [.d (.scr sc), .d .tin, .d (ni wd), .d (mD true true true true r1 e1), s4, .d (mD true true true true r2 e2), .d (LL N r1 e1 r2 e2), .d (GOT N r1 e1 r2 e2), .own (LC [([], 0, 0)]), .d .non, .own (SC [([], 0, 0)]), .un, .un, .un, .un, .un, .un, .un, .un, .un, .un, .un, .un] τ := by
  unfold l_7 sOwn
  have f1 : ∀ x : D, fits [x] = true := fun _ => rfl
  have f2 : ∀ a b : D, fits [a, b] = true := fun _ _ => rfl
  simp (implicitDefEqProofs := false) only [DL.sSeq, DL.seqO, DL.sIf, DL.sRet, DL.sSet, DL.sExpr, DL.sNo, DL.sNil, DL.sMany, DL.setS, DL.sAsg, DL.bO_pure, DL.dVar, DL.dC, DL.dOp, DL.dCB, DL.dCall, DL.aCons, DL.aNil, DL.dB, DL.bAnd, DL.bOr, DL.bNot, DL.dAnd, DL.dOr, DL.dNot, DL.dNeg, DL.dChain, DL.dIsi, DL.dIsi2, DL.tyD, DL.Ty.isa, DL.dSlice, DL.pNone, DL.pSome, DL.dTup, DL.dOf, DL.fLst, DL.fComp, DL.fItems, DL.wipeS, DL.iSeq, DL.iR1, DL.iR2, DL.iZip, DL.xVal, DL.xNil, DL.dIf, DL.gN, DL.gT, DL.gsN, DL.gsC, DL.aStar, DL.M.pure_bind, DL.M.lift_some, DL.toB_bl, DL.toI_int, DL.fits_map, DL.fits_nil, List.map_cons, List.map_nil, List.replicate, List.cons_append, List.nil_append, Nat.sub_zero, Nat.reduceSub, List.getElem?_cons_zero, List.getElem?_cons_succ, List.length_cons, List.length_nil, Nat.zero_add, Nat.reduceAdd, if_true, List.set_cons_zero, List.set_cons_succ, Option.bind_some, DL.items_tup, DL.items_lst, Bool.false_eq_true, if_false, Bool.not_true, Bool.not_false, Bool.true_and, Bool.and_true, Bool.false_and, DL.dTop, f2, f1]
  rfl
theorem v_l9 (T : Two N wd r1 e1 r2 e2) : l_9 [.d (.scr sc), .d .tin, .d (ni wd), .d (mD true true true true r1 e1), s4, .d (mD true true true true r2 e2), .d (LL N r1 e1 r2 e2), .d (GOT N r1 e1 r2 e2), s8, .d (optT (partOf 60 r1 r2 e1 e2)), s10, s11, s12, s13, s14, s15, s16, .un, .un, .un, .un, .un, .un] τ = .nx [.d (.scr sc), .d .tin, .d (ni wd), .d (mD true true true true r1 e1), s4, .d (mD true true true true r2 e2), .d (LL N r1 e1 r2 e2), .d (GOT N r1 e1 r2 e2), s8, .d (optT (partOf 60 r1 r2 e1 e2)), s10, s11, s12, s13, s14, s15, s16, .d (optT (partOf 60 r1 r2 e1 e2)), .un, .un, .un, .un, .un] τ := by
  have l1 := T.m1.len
  have l2 := T.m2.len
  have hw := T.w3
  have lm : r1.length * r2.length ≤ 6 * 7 := Nat.mul_le_mul l1 l2
  obtain ⟨z4, z5, z6⟩ := T.m2.small (by omega) hw
  have kl2 : m_law_lists 8 [mD true true true true r2 e2] = M.pure (mD false false false false r2 e2) := v_lists_mD (n := 4) z4 z5 z6
  have hp := v_parting (a1 := true) (b1 := true) (c1 := true) (d1 := true) (a2 := false) (b2 := false) (c2 := false) (d2 := false) (e1 := e1) (e2 := e2) T.m1.ok T.m2.ok (M := 60) (by omega) (by omega) (by omega)
  unfold l_9
  cases e : partOf 60 r1 r2 e1 e2 with
  | some u =>
    rw [e] at hp
    refine caught_of (h := sSet 17 (dC .non)) (f := dCall 2 (m_parting) (aCons (dVar 3) (aCons (dCall 1 (m_law_lists 8) (aCons (dVar 5) aNil)) aNil))) (pure_at ?_)
    simp (implicitDefEqProofs := false) only [DL.sSeq, DL.seqO, DL.sIf, DL.sRet, DL.sSet, DL.sExpr, DL.sNo, DL.sNil, DL.sMany, DL.setS, DL.sAsg, DL.bO_pure, DL.dVar, DL.dC, DL.dOp, DL.dCB, DL.dCall, DL.aCons, DL.aNil, DL.dB, DL.bAnd, DL.bOr, DL.bNot, DL.dAnd, DL.dOr, DL.dNot, DL.dNeg, DL.dChain, DL.dIsi, DL.dIsi2, DL.tyD, DL.Ty.isa, DL.dSlice, DL.pNone, DL.pSome, DL.dTup, DL.dOf, DL.fLst, DL.fComp, DL.fItems, DL.wipeS, DL.iSeq, DL.iR1, DL.iR2, DL.iZip, DL.xVal, DL.xNil, DL.dIf, DL.gN, DL.gT, DL.gsN, DL.gsC, DL.aStar, DL.M.pure_bind, DL.M.lift_some, DL.toB_bl, DL.toI_int, DL.fits_map, DL.fits_nil, List.map_cons, List.map_nil, List.replicate, List.cons_append, List.nil_append, Nat.sub_zero, Nat.reduceSub, List.getElem?_cons_zero, List.getElem?_cons_succ, List.length_cons, List.length_nil, Nat.zero_add, Nat.reduceAdd, if_true, List.set_cons_zero, List.set_cons_succ, Option.bind_some, DL.items_tup, DL.items_lst, Bool.false_eq_true, if_false, Bool.not_true, Bool.not_false, Bool.true_and, Bool.and_true, Bool.false_and, DL.dTop, kl2, hp, orCan, optT]
  | none =>
    rw [e] at hp
    refine try_exc ?_ rfl
    simp (implicitDefEqProofs := false) only [DL.sSeq, DL.seqO, DL.sIf, DL.sRet, DL.sSet, DL.sExpr, DL.sNo, DL.sNil, DL.sMany, DL.setS, DL.sAsg, DL.bO_pure, DL.dVar, DL.dC, DL.dOp, DL.dCB, DL.dCall, DL.aCons, DL.aNil, DL.dB, DL.bAnd, DL.bOr, DL.bNot, DL.dAnd, DL.dOr, DL.dNot, DL.dNeg, DL.dChain, DL.dIsi, DL.dIsi2, DL.tyD, DL.Ty.isa, DL.dSlice, DL.pNone, DL.pSome, DL.dTup, DL.dOf, DL.fLst, DL.fComp, DL.fItems, DL.wipeS, DL.iSeq, DL.iR1, DL.iR2, DL.iZip, DL.xVal, DL.xNil, DL.dIf, DL.gN, DL.gT, DL.gsN, DL.gsC, DL.aStar, DL.M.pure_bind, DL.M.lift_some, DL.toB_bl, DL.toI_int, DL.fits_map, DL.fits_nil, List.map_cons, List.map_nil, List.replicate, List.cons_append, List.nil_append, Nat.sub_zero, Nat.reduceSub, List.getElem?_cons_zero, List.getElem?_cons_succ, List.length_cons, List.length_nil, Nat.zero_add, Nat.reduceAdd, if_true, List.set_cons_zero, List.set_cons_succ, Option.bind_some, DL.items_tup, DL.items_lst, Bool.false_eq_true, if_false, Bool.not_true, Bool.not_false, Bool.true_and, Bool.and_true, Bool.false_and, DL.dTop, kl2, hp, orCan]
theorem ne_opt : ∀ o : Option (List Nat), neD (optT o) (optT o) = some (.bl false)
  | none => rfl
  | some u => (cod_nat.tup.neD (by omega) u u).trans (by rw [decide_eq_true rfl]; rfl)
theorem v_l10 : l_10 [.d (.scr sc), .d .tin, .d (ni wd), .d (mD true true true true r1 e1), s4, .d (mD true true true true r2 e2), .d (LL N r1 e1 r2 e2), .d (GOT N r1 e1 r2 e2), s8, .d (optT (partOf 60 r1 r2 e1 e2)), s10, s11, s12, s13, s14, s15, s16, .d (optT (partOf 60 r1 r2 e1 e2)), .un, .un, .un, .un, .un] τ = .nx [.d (.scr sc), .d .tin, .d (ni wd), .d (mD true true true true r1 e1), s4, .d (mD true true true true r2 e2), .d (LL N r1 e1 r2 e2), .d (GOT N r1 e1 r2 e2), s8, .d (optT (partOf 60 r1 r2 e1 e2)), s10, s11, s12, s13, s14, s15, s16, .d (optT (partOf 60 r1 r2 e1 e2)), .un, .un, .un, .un, .un] τ := by
  have h := ne_opt (partOf 60 r1 r2 e1 e2)
  unfold l_10
  simp (implicitDefEqProofs := false) only [DL.sSeq, DL.seqO, DL.sIf, DL.sRet, DL.sSet, DL.sExpr, DL.sNo, DL.sNil, DL.sMany, DL.setS, DL.sAsg, DL.bO_pure, DL.dVar, DL.dC, DL.dOp, DL.dCB, DL.dCall, DL.aCons, DL.aNil, DL.dB, DL.bAnd, DL.bOr, DL.bNot, DL.dAnd, DL.dOr, DL.dNot, DL.dNeg, DL.dChain, DL.dIsi, DL.dIsi2, DL.tyD, DL.Ty.isa, DL.dSlice, DL.pNone, DL.pSome, DL.dTup, DL.dOf, DL.fLst, DL.fComp, DL.fItems, DL.wipeS, DL.iSeq, DL.iR1, DL.iR2, DL.iZip, DL.xVal, DL.xNil, DL.dIf, DL.gN, DL.gT, DL.gsN, DL.gsC, DL.aStar, DL.M.pure_bind, DL.M.lift_some, DL.toB_bl, DL.toI_int, DL.fits_map, DL.fits_nil, List.map_cons, List.map_nil, List.replicate, List.cons_append, List.nil_append, Nat.sub_zero, Nat.reduceSub, List.getElem?_cons_zero, List.getElem?_cons_succ, List.length_cons, List.length_nil, Nat.zero_add, Nat.reduceAdd, if_true, List.set_cons_zero, List.set_cons_succ, Option.bind_some, DL.items_tup, DL.items_lst, Bool.false_eq_true, if_false, Bool.not_true, Bool.not_false, Bool.true_and, Bool.and_true, Bool.false_and, DL.dTop, h]
theorem v_l11 (T : Two N wd r1 e1 r2 e2) {n : Nat} (h : TinOk n τ) (hn : n ≤ 1000) : ∃ t12 t18 t19 τ', l_11 [.d (.scr sc), .d .tin, .d (ni wd), .d (mD true true true true r1 e1), s4, .d (mD true true true true r2 e2), .d (LL N r1 e1 r2 e2), .d (GOT N r1 e1 r2 e2), s8, .d (optT (partOf 60 r1 r2 e1 e2)), s10, s11, s12, s13, s14, s15, s16, .d (optT (partOf 60 r1 r2 e1 e2)), .un, .un, .un, .un, .un] τ = .nx [.d (.scr sc), .d .tin, .d (ni wd), .d (mD true true true true r1 e1), s4, .d (mD true true true true r2 e2), .d (LL N r1 e1 r2 e2), .d (GOT N r1 e1 r2 e2), s8, .d (optT (partOf 60 r1 r2 e1 e2)), s10, s11, t12, s13, s14, s15, s16, .d (optT (partOf 60 r1 r2 e1 e2)), t18, t19, .un, .un, .un] τ' := by
  have l1 := T.m1.len
  have l2 := T.m2.len
  have hw := T.w3
  have hw0 := T.w0
  have n0 := T.n0
  have n1 := T.n1
  have o1 := T.m1.ok
  obtain ⟨g1, g2, g3⟩ := least_ok (N := N) (ends := e1) o1 (by omega)
  have hr : ∀ ρ : DL.Env, iR1 (dC (.int 4)) ρ = M.pure ((List.range 4).map ni) := fun ρ => by
    show M.pure (rangeD 0 4) = _
    rw [rangeD_0]
  obtain ⟨ρ2, τ2, q1, k, t2, _, s12, s18, s19, rfl⟩ := for_nx (τ := τ) (g := gN 18) (b := sSeq (sSet 12 (dCall 3 (m_law_row) (aCons (dVar 1) (aCons (dVar 2) (aCons (dCall 2 (m_law_take) (aCons (dVar 1) (aCons (dC (.int 9)) aNil))) aNil)))))
    (sSeq (sSet 19 (dOp inD (dCall 2 (m_law_run_of) (aCons (dVar 3) (aCons (dVar 12) aNil))) (dOp ixD (dVar 3) (dC (.int 1)))))
    (sIf (bNot (dB (dCall 2 (m_law_same 8) (aCons (dOf (fLst (aCons (dCall 2 (m_takes) (aCons (dVar 3) (aCons (dVar 12) aNil))) (aCons (dCall 2 (m_takes) (aCons (dOp ixD (dVar 6) (dC (.int 0))) (aCons (dCall 1 (m_law_lists 8) (aCons (dVar 12) aNil)) aNil))) (aCons (dCall 2 (m_takes) (aCons (dCall 1 (m_least) (aCons (dVar 3) aNil)) (aCons (dVar 12) aNil))) aNil))))) (aCons (dOp mulD (dOf (fLst (aCons (dVar 19) aNil))) (dC (.int 3))) aNil))))) (sRet (dC (.bl false))) sNil)))
    (hr [.d (.scr sc), .d .tin, .d (ni wd), .d (mD true true true true r1 e1), s4, .d (mD true true true true r2 e2), .d (LL N r1 e1 r2 e2), .d (GOT N r1 e1 r2 e2), s8, .d (optT (partOf 60 r1 r2 e1 e2)), s10, s11, s12, s13, s14, s15, s16, .d (optT (partOf 60 r1 r2 e1 e2)), .un, .un, .un, .un, .un])
    (fun i ρ τ2 => ∃ k, TinOk k τ2 ∧ k ≤ n + 100 * i ∧ ∃ s12 s18 s19, ρ = [.d (.scr sc), .d .tin, .d (ni wd), .d (mD true true true true r1 e1), s4, .d (mD true true true true r2 e2), .d (LL N r1 e1 r2 e2), .d (GOT N r1 e1 r2 e2), s8, .d (optT (partOf 60 r1 r2 e1 e2)), s10, s11, s12, s13, s14, s15, s16, .d (optT (partOf 60 r1 r2 e1 e2)), s18, s19, .un, .un, .un])
    ⟨n, h, Nat.le_add_right _ _, s12, .un, .un, rfl⟩ (by
      rintro i x ρ τ1 hi ⟨k, tk, hk, s12, s18, s19, rfl⟩
      obtain ⟨hlt, rfl⟩ := List.getElem?_eq_some_iff.mp hi
      rw [List.length_range] at hlt
      rw [List.getElem_range]
      obtain ⟨m, τ3, q1, hm, t3⟩ := take_at (i := 1) (k := 9) (fa := dC (.int 9)) (ρ := [.d (.scr sc), .d .tin, .d (ni wd), .d (mD true true true true r1 e1), s4, .d (mD true true true true r2 e2), .d (LL N r1 e1 r2 e2), .d (GOT N r1 e1 r2 e2), s8, .d (optT (partOf 60 r1 r2 e1 e2)), s10, s11, s12, s13, s14, s15, s16, .d (optT (partOf 60 r1 r2 e1 e2)), .d (ni i), s19, .un, .un, .un]) rfl rfl tk (by omega) (by omega) (by omega)
      obtain ⟨text, τ4, q2, ht, hT, t4⟩ := v_law_row (wd := wd) (many := m) t3 (by omega) hw0 (by omega)
      have hrow : (dCall 3 (m_law_row) (aCons (dVar 1) (aCons (dVar 2) (aCons (dCall 2 (m_law_take) (aCons (dVar 1) (aCons (dC (.int 9)) aNil))) aNil)))) [.d (.scr sc), .d .tin, .d (ni wd), .d (mD true true true true r1 e1), s4, .d (mD true true true true r2 e2), .d (LL N r1 e1 r2 e2), .d (GOT N r1 e1 r2 e2), s8, .d (optT (partOf 60 r1 r2 e1 e2)), s10, s11, s12, s13, s14, s15, s16, .d (optT (partOf 60 r1 r2 e1 e2)), .d (ni i), s19, .un, .un, .un] τ1 = .ok (ns true text) τ4 :=
        dCall_at (aCons_at rfl (aCons_at rfl (aCons_at q1 aNil_at))) rfl q2
      have hrun := v_law_run_of (a := true) (b := true) (c := true) (e := true) (t := true) (ends := e1) o1 hT
      let so : Bool := acc r1 e1 0 (low text)
      have hin : inD (ni (run r1 0 (low text))) (ns true e1) = some (.bl so) := in_ns true _ e1
      have t1 := v_takes (a := true) (b := true) (c := true) (e := true) (t := true) (ends := e1) o1 hT
      have t2 := v_takes (a := true) (b := true) (c := true) (e := true) (t := false) (ends := leastE N r1 e1) g1 hT
      have t2' := v_takes (a := true) (b := true) (c := true) (e := true) (t := true) (ends := leastE N r1 e1) g1 hT
      rw [g3 _ (low_wd hT)] at t2 t2'
      have i60 : ixD (LL N r1 e1 r2 e2) (.int 0) = some (mD true true true true (leastR N r1 e1) (leastE N r1 e1)) := ix_sq0 false _ _
      have kl : m_law_lists 8 [ns true text] = M.pure (ns false text) := v_lists_tup (n := 7) (j := ni) (t := ni) (Nat.le_trans (show _ ≤ 1000 by omega) size1000) fun i _ => v_lists_int _ _
      have k1 := v_least (a := true) (b := true) (c := true) (e := true) (N := N) (ends := e1) o1 (by omega) (by omega) (by omega) (by omega)
      have hmul : mulD (.lst [.bl so]) (.int 3) = some (.lst [.bl so, .bl so, .bl so]) := by
        show (if (decide (-(2 ^ 63) ≤ (3 : Int)) && decide ((3 : Int) < 2 ^ 63) && decide (1 * 3 ≤ sizeLine)) = true then some (D.lst [.bl so, .bl so, .bl so]) else none) = _
        rw [if_pos (by decide +kernel)]
      have same3 : m_law_same 8 [.lst [.bl so, .bl so, .bl so], .lst [.bl so, .bl so, .bl so]] = M.pure (.bl true) := v_same 8 _ (okS_list (by show 3 ≤ 1000; omega) fun x hx => by
        simp only [List.mem_cons, List.not_mem_nil, or_false] at hx
        rcases hx with rfl | rfl | rfl <;> exact okS_bl _ _)
      have f1 : ∀ x : D, fits [x] = true := fun _ => rfl
      have f3 : ∀ a b c : D, fits [a, b, c] = true := fun _ _ _ => rfl
      have t1 : m_takes [mD true true true true r1 e1, ns true text] = M.pure (.bl so) := t1
      have t2 : m_takes [mD true true true true (leastR N r1 e1) (leastE N r1 e1), ns false text] = M.pure (.bl so) := t2
      have t2' : m_takes [mD true true true true (leastR N r1 e1) (leastE N r1 e1), ns true text] = M.pure (.bl so) := t2'
      refine ⟨_, [.d (.scr sc), .d .tin, .d (ni wd), .d (mD true true true true r1 e1), s4, .d (mD true true true true r2 e2), .d (LL N r1 e1 r2 e2), .d (GOT N r1 e1 r2 e2), s8, .d (optT (partOf 60 r1 r2 e1 e2)), s10, s11, .d (ns true text), s13, s14, s15, s16, .d (optT (partOf 60 r1 r2 e1 e2)), .d (ni i), .d (.bl so), .un, .un, .un], τ4, rfl, ?_, _, t4, by omega, _, _, _, rfl⟩
      refine st_setE hrow ?_
      simp only [List.set_cons_succ, List.set_cons_zero]
      refine st_set (d := .bl so) (by simp (implicitDefEqProofs := false) only [DL.sSeq, DL.seqO, DL.sIf, DL.sRet, DL.sSet, DL.sExpr, DL.sNo, DL.sNil, DL.sMany, DL.setS, DL.sAsg, DL.bO_pure, DL.dVar, DL.dC, DL.dOp, DL.dCB, DL.dCall, DL.aCons, DL.aNil, DL.dB, DL.bAnd, DL.bOr, DL.bNot, DL.dAnd, DL.dOr, DL.dNot, DL.dNeg, DL.dChain, DL.dIsi, DL.dIsi2, DL.tyD, DL.Ty.isa, DL.dSlice, DL.pNone, DL.pSome, DL.dTup, DL.dOf, DL.fLst, DL.fComp, DL.fItems, DL.wipeS, DL.iSeq, DL.iR1, DL.iR2, DL.iZip, DL.xVal, DL.xNil, DL.dIf, DL.gN, DL.gT, DL.gsN, DL.gsC, DL.aStar, DL.M.pure_bind, DL.M.lift_some, DL.toB_bl, DL.toI_int, DL.fits_map, DL.fits_nil, List.map_cons, List.map_nil, List.replicate, List.cons_append, List.nil_append, Nat.sub_zero, Nat.reduceSub, List.getElem?_cons_zero, List.getElem?_cons_succ, List.length_cons, List.length_nil, Nat.zero_add, Nat.reduceAdd, if_true, List.set_cons_zero, List.set_cons_succ, Option.bind_some, DL.items_tup, DL.items_lst, Bool.false_eq_true, if_false, Bool.not_true, Bool.not_false, Bool.true_and, Bool.and_true, Bool.false_and, DL.dTop, DL.items_sq, DL.len_sq, List.length_map, DL.ix_sq0, DL.ix_sq1, DL.in_ns, DL.nin_ns, DL.eqD_ni, DL.neD_ni, DL.add_ni, DL.lt_ni, DL.le_ni, DL.tuple_sq, DL.int_bl, DL.rangeD_0, Int.toNat_natCast, DL.comp_n, DL.comp_nt, DL.comp_2, DL.comp_2t, DL.mapMM_pure, DL.filtMM_pure, DL.ifp_and, DL.ifp_or, DL.ifd_and, DL.ifd_or, DL.filtMM_yes, hrun, hin]) ?_
      simp only [List.set_cons_succ, List.set_cons_zero]
      simp (implicitDefEqProofs := false) only [DL.sSeq, DL.seqO, DL.sIf, DL.sRet, DL.sSet, DL.sExpr, DL.sNo, DL.sNil, DL.sMany, DL.setS, DL.sAsg, DL.bO_pure, DL.dVar, DL.dC, DL.dOp, DL.dCB, DL.dCall, DL.aCons, DL.aNil, DL.dB, DL.bAnd, DL.bOr, DL.bNot, DL.dAnd, DL.dOr, DL.dNot, DL.dNeg, DL.dChain, DL.dIsi, DL.dIsi2, DL.tyD, DL.Ty.isa, DL.dSlice, DL.pNone, DL.pSome, DL.dTup, DL.dOf, DL.fLst, DL.fComp, DL.fItems, DL.wipeS, DL.iSeq, DL.iR1, DL.iR2, DL.iZip, DL.xVal, DL.xNil, DL.dIf, DL.gN, DL.gT, DL.gsN, DL.gsC, DL.aStar, DL.M.pure_bind, DL.M.lift_some, DL.toB_bl, DL.toI_int, DL.fits_map, DL.fits_nil, List.map_cons, List.map_nil, List.replicate, List.cons_append, List.nil_append, Nat.sub_zero, Nat.reduceSub, List.getElem?_cons_zero, List.getElem?_cons_succ, List.length_cons, List.length_nil, Nat.zero_add, Nat.reduceAdd, if_true, List.set_cons_zero, List.set_cons_succ, Option.bind_some, DL.items_tup, DL.items_lst, Bool.false_eq_true, if_false, Bool.not_true, Bool.not_false, Bool.true_and, Bool.and_true, Bool.false_and, DL.dTop, DL.items_sq, DL.len_sq, List.length_map, DL.ix_sq0, DL.ix_sq1, DL.in_ns, DL.nin_ns, DL.eqD_ni, DL.neD_ni, DL.add_ni, DL.lt_ni, DL.le_ni, DL.tuple_sq, DL.int_bl, DL.rangeD_0, Int.toNat_natCast, DL.comp_n, DL.comp_nt, DL.comp_2, DL.comp_2t, DL.mapMM_pure, DL.filtMM_pure, DL.ifp_and, DL.ifp_or, DL.ifd_and, DL.ifd_or, DL.filtMM_yes, i60, kl, k1, t1, t2, t2', hmul, same3, f1, f3])
  exact ⟨s12, s18, s19, τ2, q1⟩
theorem v_l12 (T : Two N wd r1 e1 r2 e2) : EndT (l_12 [.d (.scr sc), .d .tin, .d (ni wd), .d (mD true true true true r1 e1), s4, .d (mD true true true true r2 e2), .d (LL N r1 e1 r2 e2), .d (GOT N r1 e1 r2 e2), s8, .d (optT (partOf 60 r1 r2 e1 e2)), s10, s11, s12, s13, s14, s15, s16, .d (optT (partOf 60 r1 r2 e1 e2)), s18, s19, .un, .un, .un] τ) := by
  have l1 := T.m1.len
  have l2 := T.m2.len
  have lm : r1.length * r2.length ≤ 6 * 7 := Nat.mul_le_mul l1 l2
  have told := partOf_told (e1 := e1) (e2 := e2) T.m1.ok T.m2.ok (N := 60) (by omega)
  unfold l_12
  refine et_ret (τ' := τ) (pure_at ?_)
  cases e : partOf 60 r1 r2 e1 e2 with
  | none =>
    have i1 : isND (optT none) .non = some (.bl true) := rfl
    simp (implicitDefEqProofs := false) only [DL.sSeq, DL.seqO, DL.sIf, DL.sRet, DL.sSet, DL.sExpr, DL.sNo, DL.sNil, DL.sMany, DL.setS, DL.sAsg, DL.bO_pure, DL.dVar, DL.dC, DL.dOp, DL.dCB, DL.dCall, DL.aCons, DL.aNil, DL.dB, DL.bAnd, DL.bOr, DL.bNot, DL.dAnd, DL.dOr, DL.dNot, DL.dNeg, DL.dChain, DL.dIsi, DL.dIsi2, DL.tyD, DL.Ty.isa, DL.dSlice, DL.pNone, DL.pSome, DL.dTup, DL.dOf, DL.fLst, DL.fComp, DL.fItems, DL.wipeS, DL.iSeq, DL.iR1, DL.iR2, DL.iZip, DL.xVal, DL.xNil, DL.dIf, DL.gN, DL.gT, DL.gsN, DL.gsC, DL.aStar, DL.M.pure_bind, DL.M.lift_some, DL.toB_bl, DL.toI_int, DL.fits_map, DL.fits_nil, List.map_cons, List.map_nil, List.replicate, List.cons_append, List.nil_append, Nat.sub_zero, Nat.reduceSub, List.getElem?_cons_zero, List.getElem?_cons_succ, List.length_cons, List.length_nil, Nat.zero_add, Nat.reduceAdd, if_true, List.set_cons_zero, List.set_cons_succ, Option.bind_some, DL.items_tup, DL.items_lst, Bool.false_eq_true, if_false, Bool.not_true, Bool.not_false, Bool.true_and, Bool.and_true, Bool.false_and, DL.dTop, i1]
  | some u =>
    rw [e] at told
    obtain ⟨hT, hu, _⟩ := told
    have hu : (acc r1 e1 0 (low u) != acc r2 e2 0 (low u)) = true := hu
    have i1 : isND (optT (some u)) .non = some (.bl false) := rfl
    have t1 := v_takes (a := true) (b := true) (c := true) (e := true) (t := true) (ends := e1) T.m1.ok hT
    have t2 := v_takes (a := true) (b := true) (c := true) (e := true) (t := true) (ends := e2) T.m2.ok hT
    have n3 : neD (.bl (acc r1 e1 0 (low u))) (.bl (acc r2 e2 0 (low u))) = some (.bl true) := (neD_bls _ _).trans (by rw [hu])
    have t1 : m_takes [mD true true true true r1 e1, optT (some u)] = _ := t1
    have t2 : m_takes [mD true true true true r2 e2, optT (some u)] = _ := t2
    simp (implicitDefEqProofs := false) only [DL.sSeq, DL.seqO, DL.sIf, DL.sRet, DL.sSet, DL.sExpr, DL.sNo, DL.sNil, DL.sMany, DL.setS, DL.sAsg, DL.bO_pure, DL.dVar, DL.dC, DL.dOp, DL.dCB, DL.dCall, DL.aCons, DL.aNil, DL.dB, DL.bAnd, DL.bOr, DL.bNot, DL.dAnd, DL.dOr, DL.dNot, DL.dNeg, DL.dChain, DL.dIsi, DL.dIsi2, DL.tyD, DL.Ty.isa, DL.dSlice, DL.pNone, DL.pSome, DL.dTup, DL.dOf, DL.fLst, DL.fComp, DL.fItems, DL.wipeS, DL.iSeq, DL.iR1, DL.iR2, DL.iZip, DL.xVal, DL.xNil, DL.dIf, DL.gN, DL.gT, DL.gsN, DL.gsC, DL.aStar, DL.M.pure_bind, DL.M.lift_some, DL.toB_bl, DL.toI_int, DL.fits_map, DL.fits_nil, List.map_cons, List.map_nil, List.replicate, List.cons_append, List.nil_append, Nat.sub_zero, Nat.reduceSub, List.getElem?_cons_zero, List.getElem?_cons_succ, List.length_cons, List.length_nil, Nat.zero_add, Nat.reduceAdd, if_true, List.set_cons_zero, List.set_cons_succ, Option.bind_some, DL.items_tup, DL.items_lst, Bool.false_eq_true, if_false, Bool.not_true, Bool.not_false, Bool.true_and, Bool.and_true, Bool.false_and, DL.dTop, i1, t1, t2, n3]
end
theorem law_rest {ns : List Int} {x y : Int} (hy : 0 ≤ y) (hy2 : y < 2 ^ 63) : EndT (b_law [.d (.scr ns), .d .tin, .un, .un, .un, .un, .un, .un, .un, .un, .un, .un, .un, .un, .un, .un, .un, .un, .un, .un, .un, .un, .un] (x, y, 0)) := by
  have t0 : TinOk 0 (x, y, 0) := ⟨hy, hy2, Int.le_refl 0, Int.le_refl 0⟩
  unfold b_law
  obtain ⟨r, τ1, q1, hr, t1⟩ := take_at (i := 1) (k := 3) (fa := dC (.int 3)) (ρ := [.d (.scr ns), .d .tin, .un, .un, .un, .un, .un, .un, .un, .un, .un, .un, .un, .un, .un, .un, .un, .un, .un, .un, .un, .un, .un]) rfl rfl t0 (by omega) (by omega) (by omega)
  refine et_set (dOp_at (fa := dC (.int 1)) rfl q1 (add1_ni r)) ?_
  simp only [List.set_cons_succ, List.set_cons_zero]
  have hw0 : 0 < r + 1 := Nat.succ_pos r
  have hw : r + 1 ≤ 3 := hr
  generalize r + 1 = wd at hw0 hw
  obtain ⟨r1, e1, τ2, q2, o1, l1, a1, b1, t2⟩ := v_law_machine t1 (by omega) hw0 hw
  have m1 : Mach wd 6 r1 e1 := ⟨o1, l1, a1, b1⟩
  refine et_set (dCall_at (aCons_at rfl (aCons_at rfl aNil_at)) rfl q2) ?_
  simp only [List.set_cons_succ, List.set_cons_zero]
  obtain ⟨r2, e2, s4, τ3, q3, m2, t3⟩ := v_l2 (s0 := .d (.scr ns)) t2 (by omega) hw0 hw m1
  refine et_do q3 ?_
  have T : Two 1000 wd r1 e1 r2 e2 := ⟨by omega, by omega, hw0, hw, m1, m2⟩
  generalize 1000 = N at T
  refine et_do (v_l3 T) (et_do (v_l4 T) (et_do (v_l5 T) (et_do v_l6 (et_do v_l7 ?_))))
  obtain ⟨s8, s10, s11, s12, s13, s14, s15, s16, q8⟩ := v_l8 (s0 := .d (.scr ns)) (s4 := s4) (s6 := .d (LL N r1 e1 r2 e2)) (s7 := .d (GOT N r1 e1 r2 e2)) (τ := τ3) (e1 := e1) (e2 := e2) hw m1.ok m2.ok m1.len m2.len
  refine et_do q8 (et_do (v_l9 T) (et_do v_l10 ?_))
  obtain ⟨u12, u18, u19, τ4, q11⟩ := v_l11 (s4 := s4) (sc := ns) (s8 := s8) (s10 := s10) (s11 := s11) (s12 := s12) (s13 := s13) (s14 := s14) (s15 := s15) (s16 := s16) T t3 (by omega)
  exact et_do q11 (v_l12 T)
theorem law_true (ns : List Int) (hl : ns.length ≤ 63) : lawGood f_law b_law 23 ns := by
  obtain ⟨z, hz⟩ := v_cells (ns := ns) (0, 0, 0) hl
  obtain ⟨x, y, hb, hy, hy2⟩ := v_box z
  obtain ⟨τ', h⟩ := law_rest (ns := ns) (x := x) (y := y) hy hy2
  refine ⟨x, y, 0, (0, 0, 0), τ', ?_, h⟩
  show f_law [.d (.scr ns), .un, .un, .un, .un, .un, .un, .un, .un, .un, .un, .un, .un, .un, .un, .un, .un, .un, .un, .un, .un, .un, .un] (0, 0, 0) = _
  simp (implicitDefEqProofs := false) only [f_law, DL.sSeq, DL.seqO, DL.sIf, DL.sRet, DL.sSet, DL.sExpr, DL.sNo, DL.sNil, DL.sMany, DL.setS, DL.sAsg, DL.bO_pure, DL.dVar, DL.dC, DL.dOp, DL.dCB, DL.dCall, DL.aCons, DL.aNil, DL.dB, DL.bAnd, DL.bOr, DL.bNot, DL.dAnd, DL.dOr, DL.dNot, DL.dNeg, DL.dChain, DL.dIsi, DL.dIsi2, DL.tyD, DL.Ty.isa, DL.dSlice, DL.pNone, DL.pSome, DL.dTup, DL.dOf, DL.fLst, DL.fComp, DL.fItems, DL.wipeS, DL.iSeq, DL.iR1, DL.iR2, DL.iZip, DL.itemsD, DL.xVal, DL.xNil, DL.dIf, DL.gN, DL.gT, DL.gsN, DL.gsC, DL.aStar, DL.M.pure_bind, DL.M.lift_some, DL.toB_bl, DL.toI_int, DL.ltD_int, DL.leD_int, DL.gtD_int, DL.geD_int, DL.subD_int, DL.addD_int, DL.negD_int, DL.maxD_int, DL.eqD_int, DL.neD_int, DL.eqD_tN, DL.neD_tN, DL.neD_tN0, DL.inD_tN, DL.slD_tN, DL.lenD_tN, DL.fits_map, DL.fits_nil, List.map_cons, List.map_nil, List.replicate, List.cons_append, List.nil_append, Nat.sub_zero, Nat.reduceSub, List.getElem?_cons_zero, List.getElem?_cons_succ, List.length_cons, List.length_nil, Nat.zero_add, Nat.reduceAdd, if_true, List.set_cons_zero, List.set_cons_succ, Option.bind_some, M.bind_assoc]
  rw [M.bind_ok hz]
  simp (implicitDefEqProofs := false) only [DL.sSeq, DL.seqO, DL.sIf, DL.sRet, DL.sSet, DL.sExpr, DL.sNo, DL.sNil, DL.sMany, DL.setS, DL.sAsg, DL.bO_pure, DL.dVar, DL.dC, DL.dOp, DL.dCB, DL.dCall, DL.aCons, DL.aNil, DL.dB, DL.bAnd, DL.bOr, DL.bNot, DL.dAnd, DL.dOr, DL.dNot, DL.dNeg, DL.dChain, DL.dIsi, DL.dIsi2, DL.tyD, DL.Ty.isa, DL.dSlice, DL.pNone, DL.pSome, DL.dTup, DL.dOf, DL.fLst, DL.fComp, DL.fItems, DL.wipeS, DL.iSeq, DL.iR1, DL.iR2, DL.iZip, DL.itemsD, DL.xVal, DL.xNil, DL.dIf, DL.gN, DL.gT, DL.gsN, DL.gsC, DL.aStar, DL.M.pure_bind, DL.M.lift_some, DL.toB_bl, DL.toI_int, DL.ltD_int, DL.leD_int, DL.gtD_int, DL.geD_int, DL.subD_int, DL.addD_int, DL.negD_int, DL.maxD_int, DL.eqD_int, DL.neD_int, DL.eqD_tN, DL.neD_tN, DL.neD_tN0, DL.inD_tN, DL.slD_tN, DL.lenD_tN, DL.fits_map, DL.fits_nil, List.map_cons, List.map_nil, List.replicate, List.cons_append, List.nil_append, Nat.sub_zero, Nat.reduceSub, List.getElem?_cons_zero, List.getElem?_cons_succ, List.length_cons, List.length_nil, Nat.zero_add, Nat.reduceAdd, if_true, List.set_cons_zero, List.set_cons_succ, Option.bind_some, hb]
  rfl
end K41
end

section
set_option Elab.async false
set_option maxRecDepth 100000
open PySem PySem.Spec PyProof.Rows L2 DL
open PySem PySem.W PyProof.Rows
set_option maxHeartbeats 0 in
theorem PySem.Challenge.cw_jumpfingers_k41_whole_machines_alike_lea_holds : PySem.Challenge.rw_jumpfingers_k41_whole_machines_alike_lea.Holds := by
  w_on; o_law; k_head; (case hw => w_witness2)
  k_fill
  refine DL.walk_ofX (l := PySem.Challenge.rw_jumpfingers_k41_whole_machines_alike_lea) (n := 63) (k := 10) (good := DL.lawGood K41.f_law K41.b_law 23) rfl (by decide) rfl ⟨rfl, by decide, by decide⟩ (fun w h Y => PySem.W.kIn_of Y) ?F (fun a hl _ => K41.law_true a hl)
  case F =>
    intro w mg fa h KX G XP hmg
    refine' K41.all_mk KX G hmg ?n_is_number ?l_is_number ?c_is_number ?k_is_number ?n_is_tuple_of ?l_is_tuple_of ?c_is_tuple_of ?k_is_tuple_of ?n_is_state ?l_is_state ?c_is_state ?k_is_state ?n_is_machine ?l_is_machine ?c_is_machine ?k_is_machine ?n_wide_of ?l_wide_of ?c_wide_of ?k_wide_of ?n_state_after ?l_state_after ?c_state_after ?k_state_after ?n_takes ?l_takes ?c_takes ?k_takes ?n_come_to ?l_come_to ?c_come_to ?k_come_to ?n_parts_of ?l_parts_of ?c_parts_of ?k_parts_of ?n_renamed ?l_renamed ?c_renamed ?k_renamed ?n_least_of ?l_least_of ?c_least_of ?k_least_of ?n_least ?l_least ?c_least ?k_least ?n_sure_wide ?l_sure_wide ?c_sure_wide ?k_sure_wide ?n_alike ?l_alike ?c_alike ?k_alike ?n_is_good ?l_is_good ?c_is_good ?k_is_good ?n_joined ?l_joined ?c_joined ?k_joined ?n_first_of ?l_first_of ?c_first_of ?k_first_of ?n_first_taken ?l_first_taken ?c_first_taken ?k_first_taken ?n_parting ?l_parting ?c_parting ?k_parting ?n_law_box ?l_law_box ?c_law_box ?k_law_box ?n_law_take ?l_law_take ?c_law_take ?k_law_take ?n_law_cells ?l_law_cells ?c_law_cells ?k_law_cells ?n_law_same ?l_law_same ?c_law_same ?k_law_same ?n_law_lists ?l_law_lists ?c_law_lists ?k_law_lists ?n_law_row ?l_law_row ?c_law_row ?k_law_row ?n_law_machine ?l_law_machine ?c_law_machine ?k_law_machine ?n_law_run_of ?l_law_run_of ?c_law_run_of ?k_law_run_of ?n_law_least_of ?l_law_least_of ?c_law_least_of ?k_law_least_of ?n_law ?l_law ?c_law ?k_law ?z_isinstance ?z_bool ?z_int ?z_len ?z_tuple ?z_all ?z_zip ?z_enumerate ?z_set ?z_sorted ?z_range ?z_max ?z_abs ?z_list ?z_str ?en_Unfit ?eq_Unfit ?ek_Unfit ?eb_Unfit ?et_Unfit ?ei_Unfit ?es_Unfit ?en_CanNot ?eq_CanNot ?ek_CanNot ?eb_CanNot ?et_CanNot ?ei_CanNot ?es_CanNot ?v_MOST_WIDE
    (case n_is_number => k_is); (case l_is_number => k_is); (case c_is_number => k_is); (case k_is_number => k_is); (case n_is_tuple_of => k_is); (case l_is_tuple_of => k_is); (case c_is_tuple_of => k_is); (case k_is_tuple_of => k_is); (case n_is_state => k_is); (case l_is_state => k_is); (case c_is_state => k_is); (case k_is_state => k_is); (case n_is_machine => k_is); (case l_is_machine => k_is); (case c_is_machine => k_is); (case k_is_machine => k_is); (case n_wide_of => k_is); (case l_wide_of => k_is); (case c_wide_of => k_is); (case k_wide_of => k_is); (case n_state_after => k_is); (case l_state_after => k_is); (case c_state_after => k_is); (case k_state_after => k_is); (case n_takes => k_is); (case l_takes => k_is); (case c_takes => k_is); (case k_takes => k_is); (case n_come_to => k_is); (case l_come_to => k_is); (case c_come_to => k_is); (case k_come_to => k_is); (case n_parts_of => k_is); (case l_parts_of => k_is); (case c_parts_of => k_is); (case k_parts_of => k_is); (case n_renamed => k_is); (case l_renamed => k_is); (case c_renamed => k_is); (case k_renamed => k_is); (case n_least_of => k_is); (case l_least_of => k_is); (case c_least_of => k_is); (case k_least_of => k_is); (case n_least => k_is); (case l_least => k_is); (case c_least => k_is); (case k_least => k_is); (case n_sure_wide => k_is); (case l_sure_wide => k_is); (case c_sure_wide => k_is); (case k_sure_wide => k_is); (case n_alike => k_is); (case l_alike => k_is); (case c_alike => k_is); (case k_alike => k_is); (case n_is_good => k_is); (case l_is_good => k_is); (case c_is_good => k_is); (case k_is_good => k_is); (case n_joined => k_is); (case l_joined => k_is); (case c_joined => k_is); (case k_joined => k_is); (case n_first_of => k_is); (case l_first_of => k_is); (case c_first_of => k_is); (case k_first_of => k_is); (case n_first_taken => k_is); (case l_first_taken => k_is); (case c_first_taken => k_is); (case k_first_taken => k_is); (case n_parting => k_is); (case l_parting => k_is); (case c_parting => k_is); (case k_parting => k_is); (case n_law_box => k_is); (case l_law_box => k_is); (case c_law_box => k_is); (case k_law_box => k_is); (case n_law_take => k_is); (case l_law_take => k_is); (case c_law_take => k_is); (case k_law_take => k_is); (case n_law_cells => k_is); (case l_law_cells => k_is); (case c_law_cells => k_is); (case k_law_cells => k_is); (case n_law_same => k_is); (case l_law_same => k_is); (case c_law_same => k_is); (case k_law_same => k_is); (case n_law_lists => k_is); (case l_law_lists => k_is); (case c_law_lists => k_is); (case k_law_lists => k_is); (case n_law_row => k_is); (case l_law_row => k_is); (case c_law_row => k_is); (case k_law_row => k_is); (case n_law_machine => k_is); (case l_law_machine => k_is); (case c_law_machine => k_is); (case k_law_machine => k_is); (case n_law_run_of => k_is); (case l_law_run_of => k_is); (case c_law_run_of => k_is); (case k_law_run_of => k_is); (case n_law_least_of => k_is); (case l_law_least_of => k_is); (case c_law_least_of => k_is); (case k_law_least_of => k_is); (case n_law => k_is); (case l_law => k_is); (case c_law => k_is); (case k_law => k_is); (case z_isinstance => k_is); (case z_bool => k_is); (case z_int => k_is); (case z_len => k_is); (case z_tuple => k_is); (case z_all => k_is); (case z_zip => k_is); (case z_enumerate => k_is); (case z_set => k_is); (case z_sorted => k_is); (case z_range => k_is); (case z_max => k_is); (case z_abs => k_is); (case z_list => k_is); (case z_str => k_is); (case en_Unfit => k_is); (case eq_Unfit => k_exc); (case ek_Unfit => k_is); (case eb_Unfit => k_is); (case et_Unfit => k_is); (case ei_Unfit => k_is); (case es_Unfit => first | rfl | k_is); (case en_CanNot => k_is); (case eq_CanNot => k_exc); (case ek_CanNot => k_is); (case eb_CanNot => k_is); (case et_CanNot => k_is); (case ei_CanNot => k_is); (case es_CanNot => first | rfl | k_is); (case v_MOST_WIDE => k_is)
end
